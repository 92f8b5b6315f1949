import PyProof.Rows.All
import Wide.All
import OpenK.AllK
import Wide.FinOn
import HandS.ForMost
import HandS.IsInst
import HandS.Wide
import HandS.Flow
import HandS.Codes
import HandS.Conv
import HandS.TupAny
import HandS.Defaults
import HandS.Zip
import HandS.Rev
import PyProof.EnumMake
import PyProof.Draws
import HandS.Zip0
import HandS.Iter
import HandS.Dict
import PyProof.ReprRoads
import HandS.Lambda
import HandS.EndTab
import KE.KSuper
import KE.KExcSuper
import HandS.Base
import HandS.Call
import HandS.Exc
import HandS.ExcInit
import HandS.ExcSuper
import HandS.More
import HandS.TryMany
import HandS.ExcField
import KE.KDflt
import HandS.Nested
import HandS.Words
import PySem.Challenge.RW_seriesmill_k01_whole_fractions_and_polyn
import PyProof.ReprLen
import HandS.WordsDict
import HandS.HeadHook4
import KE.KStateDown
import Lean
import HandS.Head0
import HandS.Head1
import HandS.Head2
set_option Elab.async false
set_option linter.all false
set_option maxRecDepth 100000
/-! Ev1: a small language of pure defs with value semantics: data are PyData; a local list that a def fills is "own" until it is handed on. -/
namespace Ev
open PySem PySem.Spec PyProof.Rows

/-- a local's worth: plain data that nobody changes, or a list of the def's own -/
inductive Ov where
  | imm (d : PyData)
  | own (xs : List PyData)
def Ov.d : Ov → PyData
  | .imm d => d
  | .own xs => .list xs
abbrev Env := List (Option Ov)
def getE (ρ : Env) (i : Nat) : Option Ov := (ρ[i]?).join
def setE (ρ : Env) (i : Nat) (o : Ov) : Env := ρ.set i (some o)
def ownE (ρ : Env) (i : Nat) : Option (List PyData) := match getE ρ i with
  | some (.own xs) => some xs
  | _ => none
def clrE (ρ : Env) (i : Nat) : Env := ρ.set i none

inductive BOp where | add | sub | mul | fdiv | mod | pow
inductive COp where | eq | ne | lt | le | gt | ge | isN | isnN | isin | nin
inductive Blt where | len | abs | int | max | min | all | any | list | tuple

/-! ### operations on data -/
def ll : Nat := 16777216
def mulOk (i j : Int) : Bool := decide (i.natAbs.log2 + j.natAbs.log2 < 1000000)
def divOk (j : Int) : Bool := decide (j ≠ 0) && decide (j.natAbs.log2 < 9000)
def powOk (i j : Int) : Bool := decide (0 ≤ j) && decide (j ≤ 1000000) && decide (i.natAbs < 2 ^ 64)
def repOk (n : Nat) (k : Int) : Bool := decide (-(2 ^ 63) ≤ k) && decide (k < 2 ^ 63) && decide (n * k.toNat ≤ ll)
def binD : BOp → PyData → PyData → Option Ov
  | .add, .int i, .int j => some (.imm (.int (i + j)))
  | .add, .str x, .str y => if x.length + y.length ≤ ll then some (.imm (.str (x ++ y))) else none
  | .add, .list xs, .list ys => if xs.length + ys.length ≤ ll then some (.own (xs ++ ys)) else none
  | .add, .tuple xs, .tuple ys => if xs.length + ys.length ≤ ll ∧ xs ≠ [] then some (.imm (.tuple (xs ++ ys))) else none
  | .sub, .int i, .int j => some (.imm (.int (i - j)))
  | .mul, .int i, .int j => if mulOk i j then some (.imm (.int (i * j))) else none
  | .mul, .list xs, .int k => if repOk xs.length k then some (.own (List.replicate k.toNat xs).flatten) else none
  | .fdiv, .int i, .int j => if divOk j then some (.imm (.int (i.fdiv j))) else none
  | .mod, .int i, .int j => if j ≠ 0 then some (.imm (.int (i.fmod j))) else none
  | .pow, .int i, .int j => if powOk i j then some (.imm (.int (i ^ j.toNat))) else none
  | _, _, _ => none
def flatD : PyData → Bool
  | .none | .bool _ | .int _ | .str _ => true
  | _ => false
def inD (x : PyData) (xs : List PyData) : Option Bool := if flatD x && xs.all flatD then some (xs.any fun y => PyData.eqv y x) else none
def eqD (a b : PyData) : Option Bool := if SeqAt.shaped a && SeqAt.shaped b then some (PyData.eqv a b) else none
def isNone : PyData → Bool
  | .none => true
  | _ => false
def cmpD : COp → PyData → PyData → Option Bool
  | .eq, a, b => eqD a b
  | .ne, a, b => (eqD a b).map (!·)
  | .lt, .int i, .int j => some (decide (i < j))
  | .le, .int i, .int j => some (decide (i ≤ j))
  | .gt, .int i, .int j => some (decide (j < i))
  | .ge, .int i, .int j => some (decide (j ≤ i))
  | .isN, a, .none => some (isNone a)
  | .isnN, a, .none => some (!isNone a)
  | .isin, .str x, .str y => some (!(Builtin.Str.occurrences y x 0 y.length 1).isEmpty)
  | .nin, .str x, .str y => some (!(!(Builtin.Str.occurrences y x 0 y.length 1).isEmpty))
  | .isin, x, .list ys => inD x ys
  | .isin, x, .tuple ys => inD x ys
  | .nin, x, .list ys => (inD x ys).map (!·)
  | .nin, x, .tuple ys => (inD x ys).map (!·)
  | _, _, _ => none
def bools : List PyData → Option (List Bool)
  | [] => some []
  | .bool b :: r => (bools r).map (b :: ·)
  | _ :: _ => none
def fnD : Blt → List PyData → Option Ov
  | .len, [.list xs] => some (.imm (.int xs.length))
  | .len, [.tuple xs] => some (.imm (.int xs.length))
  | .len, [.str x] => if x.length ≤ ll then some (.imm (.int x.length)) else none
  | .abs, [.int i] => some (.imm (.int (if i < 0 then -i else i)))
  | .int, [.int i] => some (.imm (.int i))
  | .max, [.int i, .int j] => some (.imm (.int (if j > i then j else i)))
  | .min, [.int i, .int j] => some (.imm (.int (if j < i then j else i)))
  | .all, [.list xs] => (bools xs).map fun bs => .imm (.bool (bs.all id))
  | .any, [.list xs] => (bools xs).map fun bs => .imm (.bool (bs.any id))
  | .list, [.list xs] => some (.own xs)
  | .list, [.tuple xs] => some (.own xs)
  | .tuple, [.list xs] => some (.imm (.tuple xs))
  | .tuple, [.tuple xs] => some (.imm (.tuple xs))
  | _, _ => none
def kindD : PyData → String
  | .none => "NoneType"
  | .bool _ => "bool"
  | .int _ => "int"
  | .str _ => "str"
  | .list _ => "list"
  | .tuple _ => "tuple"
  | .dict _ => "dict"
def isi1 (d : PyData) (t : String) : Bool := kindD d == t || (t == "int" && kindD d == "bool")
def isiD (d : PyData) (ts : List String) : Bool := ts.any (isi1 d)
def ixN (n : Nat) (i : Int) : Option Nat := if 0 ≤ i then (if i < n then some i.toNat else none) else if -(n : Int) ≤ i then some (i + n).toNat else none
def atD (xs : List PyData) (i : Int) : Option PyData := (ixN xs.length i).bind fun j => xs[j]?
def idxD : PyData → PyData → Option PyData
  | .list xs, .int i => atD xs i
  | .tuple xs, .int i => atD xs i
  | .str z, .int i => if z.length ≤ ll then ((ixN z.cps.toList.length i).bind fun j => z.cps.toList[j]?).map fun c => .str ⟨#[c]⟩ else none
  | _, _ => none
def cut {α : Type} (xs : List α) (lo hi : Option Int) : List α := (xs.drop (HT.sIx xs.length 0 lo)).take (HT.sIx xs.length xs.length hi - HT.sIx xs.length 0 lo)
def slcD : PyData → Option Int → Option Int → Option Ov
  | .list xs, lo, hi => some (.own (cut xs lo hi))
  | .tuple xs, lo, hi => some (.imm (.tuple (cut xs lo hi)))
  | _, _, _ => none
def truD : PyData → Option Bool
  | .none => some false
  | .bool b => some b
  | .int i => some (i != 0)
  | .str x => if x.length ≤ ll then some (x.length != 0) else none
  | .list xs => some (!xs.isEmpty)
  | .tuple xs => some (!xs.isEmpty)
  | .dict _ => none
def small (i : Int) : Bool := decide (-(2 ^ 62) ≤ i) && decide (i < 2 ^ 62)
def rngD (lo : Int) (n : Nat) : List PyData := (List.range n).map fun (k : Nat) => .int (lo + (k : Int))

inductive Out where
  | next | brk | cont
  | ret (o : Ov)

/-! ### the language -/
mutual
inductive IE where
  | lit (c : PyData)
  | glob (c : PyData)
  | var (i : Nat)
  | bin (op : BOp) (a b : IE)
  | neg (a : IE)
  | bt (t : IT)
  | ife (t : IT) (a b : IE)
  | tup (es : IEs)
  | lst (es : IEs)
  | idx (a i : IE)
  | idxv (x : Nat) (i : IE)
  | slc (a : IE) (lo hi : IO)
  | slcv (x : Nat) (lo hi : IO)
  | call (f : Nat) (args : IEs)
  | fn (b : Blt) (args : IEs)
  | fnv (b : Blt) (x : Nat)
  | isi (a : IE) (ts : List String)
  | isiv (x : Nat) (ts : List String)
  | pop (x : Nat)
  | popa (x : Nat) (i : IE)
  | lc (is : List Nat) (g : IG) (t : IT) (e : IE)
  | callk (f : Nat) (pm : List Nat) (args : IEs)
  | nope
  | prim (g : Env → Option (Ov × Env))
inductive IEs where
  | nil
  | cons (e : IE) (es : IEs)
  | ref (x : Nat) (es : IEs)
inductive IO where
  | non
  | som (e : IE)
inductive IT where
  | tt
  | val (e : IE)
  | valv (x : Nat)
  | bv (e : IE)
  | cmp (op : COp) (a b : IE)
  | chain (o1 o2 : COp) (a b c : IE)
  | and (a b : IT)
  | or (a b : IT)
  | not (a : IT)
inductive IG where
  | seq (e : IE)
  | rng1 (e : IE)
  | rng2 (a b : IE)
  | enum (e : IE)
  | zip (a b : IE)
  | rev (e : IE)
end
mutual
inductive IS where
  | set (i : Nat) (e : IE)
  | par (is : List Nat) (es : IEs)
  | unp (is : List Nat) (e : IE)
  | put (x : Nat) (i e : IE)
  | aug (x : Nat) (op : BOp) (e : IE)
  | app (x : Nat) (e : IE)
  | ex (e : IE)
  | ite (t : IT) (a b : ISs)
  | whl (t : IT) (b : ISs)
  | loop (is : List Nat) (g : IG) (b : ISs)
  | ret (e : IE)
  | retv (x : Nat)
  | retN
  | pass
  | brk
  | cont
  | nope
  | prim (g : Env → Option (Out × Env))
inductive ISs where
  | nil
  | cons (s : IS) (ss : ISs)
end

def IEs.len : IEs → Nat
  | .nil => 0
  | .cons _ es => es.len + 1
  | .ref _ es => es.len + 1

/-- a call: the def's number, the arguments (own ones are handed to be changed), what comes back, what the changed ones hold -/
abbrev CS := Nat → List Ov → Option (Ov × List (List PyData))

/-! ### its meaning -/
def setAll : List Nat → List PyData → Env → Option Env
  | [], [], ρ => some ρ
  | i :: is, d :: ds, ρ => setAll is ds (setE ρ i (.imm d))
  | _, _, _ => none
def bindPat (is : List Nat) (d : PyData) (ρ : Env) : Option Env := match is, d with
  | [i], d => some (setE ρ i (.imm d))
  | is, .tuple ds => setAll is ds ρ
  | _, _ => none
/-- the slots of a comprehension: forgotten -/
def clrAll : List Nat → Env → Env
  | [], ρ => ρ
  | i :: is, ρ => clrE (clrAll is ρ) i
/-- behind a comprehension: plain data come back, own lists are forgotten -/
def backE (old : Env) : List Nat → Env → Env
  | [], ρ => ρ
  | i :: is, ρ => match getE old i with
    | some (.imm d) => setE (backE old is ρ) i (.imm d)
    | _ => clrE (backE old is ρ) i
def goFor (is : List Nat) (body : Env → Option (Out × Env)) : List PyData → Env → Option (Out × Env)
  | [], ρ => some (.next, ρ)
  | d :: ds, ρ => (bindPat is d ρ).bind fun ρ1 => (body ρ1).bind fun p => match p with
    | (.next, ρ2) => goFor is body ds ρ2
    | (.cont, ρ2) => goFor is body ds ρ2
    | (.brk, ρ2) => some (.next, ρ2)
    | (.ret v, ρ2) => some (.ret v, ρ2)
def goLc (is : List Nat) (test : Env → Option (Bool × Env)) (elt : Env → Option (Ov × Env)) : List PyData → Env → Option (List PyData × Env)
  | [], ρ => some ([], ρ)
  | d :: ds, ρ => (bindPat is d ρ).bind fun ρ1 => (test ρ1).bind fun p => match p with
    | (true, ρ2) => (elt ρ2).bind fun q => (goLc is test elt ds (clrAll is q.2)).map fun r => (q.1.d :: r.1, r.2)
    | (false, ρ2) => goLc is test elt ds (clrAll is ρ2)
def whl (test : Env → Option (Bool × Env)) (body : Env → Option (Out × Env)) (ρ : Env) : Option (Out × Env) := do
  let p ← test ρ
  if p.1 = true then do
    let q ← body p.2
    match q.1 with
    | .next => whl test body q.2
    | .cont => whl test body q.2
    | .brk => pure (.next, q.2)
    | .ret v => pure (.ret v, q.2)
  else pure (.next, p.2)
partial_fixpoint

/-- the arguments: data, or the slot of an own list -/
inductive Ar where
  | d (x : PyData)
  | r (x : Nat)
def arOv (ρ : Env) : Ar → Option Ov
  | .d x => some (.imm x)
  | .r x => (ownE ρ x).map Ov.own
def arAll (ρ : Env) : List Ar → Option (List Ov)
  | [] => some []
  | a :: r => (arOv ρ a).bind fun o => (arAll ρ r).map (o :: ·)
def refsA : List Ar → List Nat
  | [] => []
  | .d _ :: r => refsA r
  | .r x :: r => x :: refsA r
def putBack : List Nat → List (List PyData) → Env → Option Env
  | [], [], ρ => some ρ
  | x :: xs, l :: ls, ρ => putBack xs ls (setE ρ x (.own l))
  | _, _, _ => none
def asD : List Ar → Option (List PyData)
  | [] => some []
  | .d x :: r => (asD r).map (x :: ·)
  | .r _ :: _ => none
def intOf : PyData → Option Int
  | .int i => some i
  | _ => none
def boolOf : PyData → Option Bool
  | .bool b => some b
  | _ => none
def seqOf : PyData → Option (List PyData)
  | .list xs => some xs
  | .tuple xs => some xs
  | _ => none
def pairOf : PyData → PyData → Option (List PyData × List PyData)
  | .list xs, .list ys => some (xs, ys)
  | .tuple xs, .tuple ys => some (xs, ys)
  | _, _ => none
/-- what stands at these places -/
def permD (pm : List Nat) (ds : List PyData) : Option (List PyData) := match pm with
  | [] => some []
  | i :: pm => (ds[i]?).bind fun d => (permD pm ds).map (d :: ·)
def listOf : PyData → Option (List PyData)
  | .list xs => some xs
  | _ => none
def enumL (n : Nat) : List PyData → List PyData
  | [] => []
  | d :: ds => .tuple [.int (n : Int), d] :: enumL (n + 1) ds
def zipL : List PyData → List PyData → List PyData
  | x :: xs, y :: ys => .tuple [x, y] :: zipL xs ys
  | _, _ => []

mutual
def ev (cs : CS) : IE → Env → Option (Ov × Env)
  | .lit c, ρ => some (.imm c, ρ)
  | .glob c, ρ => some (.imm c, ρ)
  | .var i, ρ => (getE ρ i).map fun o => (.imm o.d, setE ρ i (.imm o.d))
  | .bin op a b, ρ => (ev cs a ρ).bind fun p => (ev cs b p.2).bind fun q => (binD op p.1.d q.1.d).map fun o => (o, q.2)
  | .neg a, ρ => (ev cs a ρ).bind fun p => (intOf p.1.d).map fun i => (.imm (.int (-i)), p.2)
  | .bt t, ρ => (evT cs t ρ).map fun p => (.imm (.bool p.1), p.2)
  | .ife t a b, ρ => (evT cs t ρ).bind fun p => match p.1 with
    | true => ev cs a p.2
    | false => ev cs b p.2
  | .tup es, ρ => (evs cs es ρ).bind fun p => (asD p.1).bind fun ds => if ds.length ≤ ll then some (.imm (.tuple ds), p.2) else none
  | .lst es, ρ => (evs cs es ρ).bind fun p => (asD p.1).bind fun ds => if ds.length ≤ ll then some (.own ds, p.2) else none
  | .idx a i, ρ => (ev cs a ρ).bind fun p => (ev cs i p.2).bind fun q => (idxD p.1.d q.1.d).map fun d => (.imm d, q.2)
  | .idxv x i, ρ => (getE ρ x).bind fun _ => (ev cs i ρ).bind fun q => (getE q.2 x).bind fun o => (idxD o.d q.1.d).map fun d => (.imm d, q.2)
  | .slc a lo hi, ρ => (ev cs a ρ).bind fun p => (evO cs lo p.2).bind fun q => (evO cs hi q.2).bind fun r => (slcD p.1.d q.1 r.1).map fun o => (o, r.2)
  | .slcv x lo hi, ρ => (getE ρ x).bind fun _ => (evO cs lo ρ).bind fun q => (evO cs hi q.2).bind fun r => (getE r.2 x).bind fun o => (slcD o.d q.1 r.1).map fun o => (o, r.2)
  | .call f args, ρ => (evs cs args ρ).bind fun p => (arAll p.2 p.1).bind fun os => if (refsA p.1).Nodup then (cs f os).bind fun r => (putBack (refsA p.1) r.2 p.2).map fun ρ2 => (r.1, ρ2) else none
  | .fn b args, ρ => (evs cs args ρ).bind fun p => (asD p.1).bind fun ds => (fnD b ds).map fun o => (o, p.2)
  | .fnv b x, ρ => (getE ρ x).bind fun o => (fnD b [o.d]).map fun r => (r, ρ)
  | .isi a ts, ρ => (ev cs a ρ).map fun p => (.imm (.bool (isiD p.1.d ts)), p.2)
  | .isiv x ts, ρ => (getE ρ x).map fun o => (.imm (.bool (isiD o.d ts)), ρ)
  | .pop x, ρ => match getE ρ x with
    | some (.own xs) => (xs[xs.length - 1]?).map fun d => (.imm d, setE ρ x (.own xs.dropLast))
    | _ => none
  | .popa x i, ρ => (ownE ρ x).bind fun _ => (ev cs i ρ).bind fun q => (intOf q.1.d).bind fun k => match getE q.2 x with
    | some (.own xs) => if small k then (ixN xs.length k).bind fun j => (xs[j]?).map fun d => (.imm d, setE q.2 x (.own (xs.eraseIdx j))) else none
    | _ => none
  | .lc is g t e, ρ => (evG cs g ρ).bind fun p => (goLc is (evT cs t) (ev cs e) p.1 (clrAll is p.2)).map fun r => (.own r.1, backE p.2 is r.2)
  | .callk f pm args, ρ => (evs cs args ρ).bind fun p => (asD p.1).bind fun ds => (permD pm ds).bind fun es => (cs f (es.map Ov.imm)).bind fun r => if r.2 = [] then some (r.1, p.2) else none
  | .nope, _ => none
  | .prim g, ρ => g ρ
def evs (cs : CS) : IEs → Env → Option (List Ar × Env)
  | .nil, ρ => some ([], ρ)
  | .cons e es, ρ => (ev cs e ρ).bind fun p => (evs cs es p.2).map fun q => (.d p.1.d :: q.1, q.2)
  | .ref x es, ρ => (getE ρ x).bind fun _ => (evs cs es ρ).map fun q => (.r x :: q.1, q.2)
def evO (cs : CS) : IO → Env → Option (Option Int × Env)
  | .non, ρ => some (none, ρ)
  | .som e, ρ => (ev cs e ρ).bind fun p => (intOf p.1.d).map fun i => (some i, p.2)
def evT (cs : CS) : IT → Env → Option (Bool × Env)
  | .tt, ρ => some (true, ρ)
  | .val e, ρ => (ev cs e ρ).bind fun p => (truD p.1.d).map fun b => (b, p.2)
  | .valv x, ρ => (getE ρ x).bind fun o => (truD o.d).map fun b => (b, ρ)
  | .bv e, ρ => (ev cs e ρ).bind fun p => (boolOf p.1.d).map fun b => (b, p.2)
  | .cmp op a b, ρ => (ev cs a ρ).bind fun p => (ev cs b p.2).bind fun q => (cmpD op p.1.d q.1.d).map fun k => (k, q.2)
  | .chain o1 o2 a b c, ρ => (ev cs a ρ).bind fun p => (ev cs b p.2).bind fun q => (cmpD o1 p.1.d q.1.d).bind fun k => match k with
    | true => (ev cs c q.2).bind fun r => (cmpD o2 q.1.d r.1.d).map fun k => (k, r.2)
    | false => some (false, q.2)
  | .and a b, ρ => (evT cs a ρ).bind fun p => match p.1 with
    | true => evT cs b p.2
    | false => some (false, p.2)
  | .or a b, ρ => (evT cs a ρ).bind fun p => match p.1 with
    | true => some (true, p.2)
    | false => evT cs b p.2
  | .not a, ρ => (evT cs a ρ).map fun p => (!p.1, p.2)
def evG (cs : CS) : IG → Env → Option (List PyData × Env)
  | .seq e, ρ => (ev cs e ρ).bind fun p => (seqOf p.1.d).map fun xs => (xs, p.2)
  | .rng1 e, ρ => (ev cs e ρ).bind fun p => (intOf p.1.d).bind fun k => if small k && decide (k ≤ ll) then some (rngD 0 k.toNat, p.2) else none
  | .rng2 a b, ρ => (ev cs a ρ).bind fun p => (ev cs b p.2).bind fun q => (intOf p.1.d).bind fun i => (intOf q.1.d).bind fun j => if small i && small j && decide (j - i ≤ ll) then some (rngD i (j - i).toNat, q.2) else none
  | .enum e, ρ => (ev cs e ρ).bind fun p => (seqOf p.1.d).map fun xs => (enumL 0 xs, p.2)
  | .zip a b, ρ => (ev cs a ρ).bind fun p => (ev cs b p.2).bind fun q => (pairOf p.1.d q.1.d).map fun r => (zipL r.1 r.2, q.2)
  | .rev e, ρ => (ev cs e ρ).bind fun p => (seqOf p.1.d).map fun xs => (xs.reverse, p.2)
end
mutual
def evS (cs : CS) : IS → Env → Option (Out × Env)
  | .set i e, ρ => (ev cs e ρ).map fun p => (.next, setE p.2 i p.1)
  | .par is es, ρ => (evs cs es ρ).bind fun p => (asD p.1).bind fun ds => (setAll is ds p.2).map fun ρ2 => (.next, ρ2)
  | .unp is e, ρ => (ev cs e ρ).bind fun p => match p.1.d with
    | .tuple ds => (setAll is ds p.2).map fun ρ2 => (.next, ρ2)
    | _ => none
  | .put x i e, ρ => (ev cs e ρ).bind fun p => (getE p.2 x).bind fun _ => (ev cs i p.2).bind fun q => (intOf q.1.d).bind fun k => match getE q.2 x with
    | some (.own xs) => (ixN xs.length k).map fun j => (.next, setE q.2 x (.own (xs.set j p.1.d)))
    | _ => none
  | .aug x op e, ρ => (getE ρ x).bind fun o => (intOf o.d).bind fun i => (ev cs e ρ).bind fun p => (intOf p.1.d).bind fun j => (match op with
    | .add => some (i + j)
    | .sub => some (i - j)
    | _ => none).map fun k => (.next, setE p.2 x (.imm (.int k)))
  | .app x e, ρ => (ownE ρ x).bind fun _ => (ev cs e ρ).bind fun p => match getE p.2 x with
    | some (.own xs) => if xs.length < ll then some (.next, setE p.2 x (.own (xs ++ [p.1.d]))) else none
    | _ => none
  | .ex e, ρ => (ev cs e ρ).map fun p => (.next, p.2)
  | .ite t a b, ρ => (evT cs t ρ).bind fun p => match p.1 with
    | true => evSs cs a p.2
    | false => evSs cs b p.2
  | .whl t b, ρ => whl (evT cs t) (evSs cs b) ρ
  | .loop is g b, ρ => (evG cs g ρ).bind fun p => goFor is (evSs cs b) p.1 p.2
  | .ret e, ρ => (ev cs e ρ).map fun p => (.ret p.1, p.2)
  | .retv x, ρ => (getE ρ x).map fun o => (.ret o, clrE ρ x)
  | .retN, ρ => some (.ret (.imm .none), ρ)
  | .pass, ρ => some (.next, ρ)
  | .brk, ρ => some (.brk, ρ)
  | .cont, ρ => some (.cont, ρ)
  | .nope, _ => none
  | .prim g, ρ => g ρ
def evSs (cs : CS) : ISs → Env → Option (Out × Env)
  | .nil, ρ => some (.next, ρ)
  | .cons s ss, ρ => (evS cs s ρ).bind fun p => match p with
    | (.next, ρ1) => evSs cs ss ρ1
    | (.brk, ρ1) => some (.brk, ρ1)
    | (.cont, ρ1) => some (.cont, ρ1)
    | (.ret v, ρ1) => some (.ret v, ρ1)
end

/-! ### defs -/
structure FD where
  np : Nat
  ns : Nat
  io : List Nat
  body : ISs
inductive FX where
  | code (d : FD)
  | ext (k : Nat) (g : List Ov → Option (Ov × List (List PyData)))
def Ov.isOwn : Ov → Bool
  | .own _ => true
  | _ => false
def ownsF : Nat → List Ov → List Nat
  | _, [] => []
  | k, .own _ :: os => k :: ownsF (k + 1) os
  | k, .imm _ :: os => ownsF (k + 1) os
def owns (os : List Ov) : List Nat := ownsF 0 os
def outs : List Nat → Env → Option (List (List PyData))
  | [], _ => some []
  | i :: is, ρ => match getE ρ i with
    | some (.own xs) => (outs is ρ).map (xs :: ·)
    | _ => none
def start0 (d : FD) (os : List Ov) : Env := os.map some ++ List.replicate (d.ns - os.length) none
def callN (Φ : Nat → Option FX) : Nat → CS
  | 0, _, _ => none
  | n + 1, f, os => match Φ f with
    | some (.code d) => if os.length = d.np ∧ owns os = d.io then (evSs (callN Φ n) d.body (start0 d os)).bind fun p => match p with
        | (.ret o, ρ) => (outs d.io ρ).map fun l => (o, l)
        | (.next, ρ) => (outs d.io ρ).map fun l => (.imm .none, l)
        | _ => none
      else none
    | some (.ext k g) => if k ≤ n + 1 then g os else none
    | none => none
end Ev
set_option Elab.async false
set_option linter.all false
set_option maxRecDepth 100000
/-! Ev2: what the evaluator's data mean in the abstract heap; its judgements over HandS. -/
namespace Ev
open PySem PySem.Spec PyProof.Rows L2
abbrev Frag := PySem.W.Frag

def keyD : Key → PyData
  | .inl i => .int i
  | .inr x => .str x
mutual
/-- the value v stands for these data in the heap F -/
inductive Dn (K : Frag) (F : Hp) : V → PyData → Prop
  | non : Dn K F .non .none
  | bl (b : Bool) : Dn K F (.bl b) (.bool b)
  | int (i : Int) : Dn K F (.int i) (.int i)
  | str (x : Str) : Dn K F (.str x) (.str x)
  | lst {a : Addr} {vs : List V} {ds : List PyData} : F a = some (.lst vs) → DnA K F vs ds → Dn K F (.ref a) (.list ds)
  | tup {a : Addr} {vs : List V} {ds : List PyData} : SqT K F a vs → DnA K F vs ds → Dn K F (.ref a) (.tuple ds)
  | dct {a : Addr} {kvs : List (Key × V)} {ds : List (Key × PyData)} {es : List (PyData × PyData)} : F a = some (.dK kvs) → DnK K F kvs ds → es = ds.map (fun p => (keyD p.1, p.2)) → Dn K F (.ref a) (.dict es)
inductive DnA (K : Frag) (F : Hp) : List V → List PyData → Prop
  | nil : DnA K F [] []
  | cons {v : V} {vs : List V} {d : PyData} {ds : List PyData} : Dn K F v d → DnA K F vs ds → DnA K F (v :: vs) (d :: ds)
inductive DnK (K : Frag) (F : Hp) : List (Key × V) → List (Key × PyData) → Prop
  | nil : DnK K F [] []
  | cons {k : Key} {v : V} {vs : List (Key × V)} {d : PyData} {ds : List (Key × PyData)} : Dn K F v d → DnK K F vs ds → DnK K F ((k, v) :: vs) ((k, d) :: ds)
end
theorem sqT_same {K : Frag} {H H' : Hp} {a : Addr} {xs : List V} (e : Same H H') (h : SqT K H a xs) : SqT K H' a xs := by
  rcases h with (h | ⟨o, h⟩) | h
  · exact .inl (.inl (e _ _ h))
  · exact .inl (.inr ⟨o, e _ _ h⟩)
  · exact .inr h
mutual
theorem Dn.mono {K : Frag} {F F' : Hp} (s : Same F F') : ∀ {v : V} {d : PyData}, Dn K F v d → Dn K F' v d
  | _, _, .non => .non
  | _, _, .bl b => .bl b
  | _, _, .int i => .int i
  | _, _, .str x => .str x
  | _, _, .lst h q => .lst (s _ _ h) (DnA.mono s q)
  | _, _, .tup h q => .tup (sqT_same s h) (DnA.mono s q)
  | _, _, .dct h q e => .dct (s _ _ h) (DnK.mono s q) e
theorem DnA.mono {K : Frag} {F F' : Hp} (s : Same F F') : ∀ {vs : List V} {ds : List PyData}, DnA K F vs ds → DnA K F' vs ds
  | _, _, .nil => .nil
  | _, _, .cons h q => .cons (Dn.mono s h) (DnA.mono s q)
theorem DnK.mono {K : Frag} {F F' : Hp} (s : Same F F') : ∀ {vs : List (Key × V)} {ds : List (Key × PyData)}, DnK K F vs ds → DnK K F' vs ds
  | _, _, .nil => .nil
  | _, _, .cons h q => .cons (Dn.mono s h) (DnK.mono s q)
end
section
variable {K : Frag} {F : Hp}
theorem DnA.len : ∀ {vs : List V} {ds : List PyData}, DnA K F vs ds → vs.length = ds.length
  | _, _, .nil => rfl
  | _, _, .cons _ q => by simp [q.len]
theorem DnA.get : ∀ {vs : List V} {ds : List PyData} {i : Nat} {d : PyData}, DnA K F vs ds → ds[i]? = some d → ∃ v, vs[i]? = some v ∧ Dn K F v d
  | _, _, i, d, .nil, e => by simp at e
  | _, _, 0, d, .cons h _, e => by simp at e; subst e; exact ⟨_, rfl, h⟩
  | _, _, i + 1, d, .cons _ q, e => by
    obtain ⟨v, h1, h2⟩ := q.get (i := i) (d := d) (by simpa using e)
    exact ⟨v, by simpa using h1, h2⟩
theorem DnA.get' : ∀ {vs : List V} {ds : List PyData} {i : Nat} {v : V}, DnA K F vs ds → vs[i]? = some v → ∃ d, ds[i]? = some d ∧ Dn K F v d
  | _, _, i, d, .nil, e => by simp at e
  | _, _, 0, d, .cons h _, e => by simp at e; subst e; exact ⟨_, rfl, h⟩
  | _, _, i + 1, d, .cons _ q, e => by
    obtain ⟨v, h1, h2⟩ := q.get' (i := i) (v := d) (by simpa using e)
    exact ⟨v, by simpa using h1, h2⟩
theorem DnA.app : ∀ {vs ws : List V} {ds es : List PyData}, DnA K F vs ds → DnA K F ws es → DnA K F (vs ++ ws) (ds ++ es)
  | _, _, _, _, .nil, h => h
  | _, _, _, _, .cons a q, h => .cons a (q.app h)
theorem DnA.set {v : V} {d : PyData} (h : Dn K F v d) : ∀ {vs : List V} {ds : List PyData} (i : Nat), DnA K F vs ds → DnA K F (vs.set i v) (ds.set i d)
  | _, _, _, .nil => .nil
  | _, _, 0, .cons _ q => .cons h q
  | _, _, i + 1, .cons a q => .cons a (q.set h i)
theorem DnA.take : ∀ {vs : List V} {ds : List PyData} (n : Nat), DnA K F vs ds → DnA K F (vs.take n) (ds.take n)
  | _, _, 0, _ => .nil
  | _, _, _ + 1, .nil => .nil
  | _, _, n + 1, .cons a q => .cons a (q.take n)
theorem DnA.drop : ∀ {vs : List V} {ds : List PyData} (n : Nat), DnA K F vs ds → DnA K F (vs.drop n) (ds.drop n)
  | _, _, 0, q => q
  | _, _, _ + 1, .nil => .nil
  | _, _, n + 1, .cons _ q => q.drop n
theorem DnA.dropLast {vs : List V} {ds : List PyData} (h : DnA K F vs ds) : DnA K F vs.dropLast ds.dropLast := by
  rw [List.dropLast_eq_take, List.dropLast_eq_take, h.len]
  exact h.take _
theorem DnA.erase : ∀ {vs : List V} {ds : List PyData} (i : Nat), DnA K F vs ds → DnA K F (vs.eraseIdx i) (ds.eraseIdx i)
  | _, _, _, .nil => .nil
  | _, _, 0, .cons _ q => q
  | _, _, i + 1, .cons a q => .cons a (q.erase i)
theorem DnA.flat : ∀ (n : Nat) {vs : List V} {ds : List PyData}, DnA K F vs ds → DnA K F (List.replicate n vs).flatten (List.replicate n ds).flatten
  | 0, _, _, _ => .nil
  | n + 1, vs, ds, h => by
    rw [List.replicate_succ, List.replicate_succ, List.flatten_cons, List.flatten_cons]
    exact h.app (h.flat n)
theorem DnA.rev : ∀ {vs : List V} {ds : List PyData}, DnA K F vs ds → DnA K F vs.reverse ds.reverse
  | _, _, .nil => .nil
  | _, _, .cons h q => by
    rw [List.reverse_cons, List.reverse_cons]
    exact q.rev.app (.cons h .nil)
theorem DnA.one {v : V} {d : PyData} (h : Dn K F v d) : DnA K F [v] [d] := .cons h .nil
/-- no dict within: the library's own relation -/
theorem Dn.dp : ∀ {v : V} {d : PyData}, Dn K F v d → d.canLay0 = true → Dp K F v d := by
  intro v d h
  refine Dn.rec (motive_1 := fun v d _ => d.canLay0 = true → Dp K F v d) (motive_2 := fun vs ds _ => PyData.canLayAll0 ds = true → DpAll K F vs ds) (motive_3 := fun _ _ _ => True) ?_ ?_ ?_ ?_ ?_ ?_ ?_ ?_ ?_ ?_ ?_ h
  · exact fun _ => .non
  · exact fun b _ => .bl b
  · exact fun i _ => .int i
  · exact fun x _ => .str x
  · exact fun hs _ ih c => .lst (SqL.of hs) (ih (by simpa [PyData.canLay0] using c))
  · exact fun hs _ ih c => .tup hs (ih (by simpa [PyData.canLay0] using c))
  · exact fun _ _ _ _ c => by simp [PyData.canLay0] at c
  · exact fun _ => .nil
  · intro v vs d ds _ _ i1 i2 c
    have c' : d.canLay0 = true ∧ PyData.canLayAll0 ds = true := by simpa [PyData.canLayAll0] using c
    exact .cons (i1 c'.1) (i2 c'.2)
  · trivial
  · intros; trivial
end
theorem dp_mono {K : Frag} {F F' : Hp} (s : Same F F') : ∀ {v : V} {d : PyData}, Dp K F v d → Dp K F' v d := by
  intro v d h
  refine Dp.rec (motive_1 := fun v d _ => Dp K F' v d) (motive_2 := fun vs ds _ => DpAll K F' vs ds) ?_ ?_ ?_ ?_ ?_ ?_ ?_ ?_ h
  · exact .non
  · exact .bl
  · exact .int
  · exact .str
  · exact fun hs _ ih => .lst (s.seq hs) ih
  · exact fun hs _ ih => .tup (sqT_same s hs) ih
  · exact .nil
  · exact fun _ _ i1 i2 => .cons i1 i2

/-! ### the state -/
/-- the list at a is the def's own -/
def Own (K : Frag) (G F H : Hp) (a : Addr) (xs : List PyData) : Prop := G a = none ∧ F a = none ∧ ∃ vs, H a = some (.lst vs) ∧ DnA K F vs xs
/-- G: what the def may not change; F: what is data; A: the slots of the arguments that are changed -/
structure Rel (K : Frag) (A : List (Nat × Addr)) (G F H : Hp) (σ : L2.St) (ρ : Env) : Prop where
  frm : Same G H
  sub : Same F H
  imm : ∀ i d, getE ρ i = some (.imm d) → ∃ v, σ[i]? = some (some v) ∧ Dn K F v d
  own : ∀ i xs, getE ρ i = some (.own xs) → ∃ a, σ[i]? = some (some (.ref a)) ∧ Own K G F H a xs
  dis : ∀ i j xs ys a, getE ρ i = some (.own xs) → getE ρ j = some (.own ys) → σ[i]? = some (some (.ref a)) → σ[j]? = some (some (.ref a)) → i = j
  pin : ∀ p ∈ A, σ[p.1]? = some (some (.ref p.2))
  len : ρ.length = σ.length
structure Ext (G F F' : Hp) : Prop where
  le : Same F F'
  new : ∀ b, F b = none → G b ≠ none → F' b = none
theorem Ext.refl {G F : Hp} : Ext G F F := ⟨.refl _, fun _ h _ => h⟩
theorem Ext.trans {G F F1 F2 : Hp} (a : Ext G F F1) (b : Ext G F1 F2) : Ext G F F2 := ⟨a.le.trans b.le, fun c h g => b.new c (a.new c h g) g⟩
/-- a result -/
def DnO (K : Frag) (G F H : Hp) (σ : L2.St) (ρ : Env) (v : V) : Ov → Prop
  | .imm d => Dn K F v d
  | .own xs => ∃ a, v = .ref a ∧ Own K G F H a xs ∧ ∀ i ys, getE ρ i = some (.own ys) → σ[i]? ≠ some (some (.ref a))
def Post (K : Frag) (A : List (Nat × Addr)) (G F : Hp) (σ : L2.St) (ρ : Env) (o : Ov) : VK := fun v H' => ∃ F', Ext G F F' ∧ Rel K A G F' H' σ ρ ∧ DnO K G F' H' σ ρ v o
def PostD (K : Frag) (A : List (Nat × Addr)) (G F : Hp) (σ : L2.St) (ρ : Env) (d : PyData) : VK := fun v H' => ∃ F', Ext G F F' ∧ Rel K A G F' H' σ ρ ∧ Dn K F' v d

/-! ### env -/
theorem getE_set {ρ : Env} {i j : Nat} {o : Ov} : getE (setE ρ i o) j = if i = j ∧ i < ρ.length then some o else getE ρ j := by
  unfold getE setE
  by_cases h : i = j
  · subst h
    by_cases hl : i < ρ.length
    · simp [hl]
    · simp [hl]
  · simp [h]
theorem getE_clr {ρ : Env} {i j : Nat} : getE (clrE ρ i) j = if i = j then none else getE ρ j := by
  unfold getE clrE
  by_cases h : i = j
  · subst h
    by_cases hl : i < ρ.length
    · simp [hl]
    · simp [hl]
  · simp [h]
theorem getE_lt {ρ : Env} {i : Nat} {o : Ov} (h : getE ρ i = some o) : i < ρ.length := by
  unfold getE at h
  cases e : ρ[i]? with
  | none => rw [e] at h; cases h
  | some x => exact (List.getElem?_eq_some_iff.mp e).1
theorem setE_len {ρ : Env} {i : Nat} {o : Ov} : (setE ρ i o).length = ρ.length := by simp [setE]
theorem clrE_len {ρ : Env} {i : Nat} : (clrE ρ i).length = ρ.length := by simp [clrE]
theorem clrAll_len : ∀ (is : List Nat) (ρ : Env), (clrAll is ρ).length = ρ.length
  | [], _ => rfl
  | i :: is, ρ => by unfold clrAll; rw [clrE_len, clrAll_len is ρ]
theorem getE_clrAll : ∀ (is : List Nat) (ρ : Env) (j : Nat), getE (clrAll is ρ) j = if j ∈ is then none else getE ρ j
  | [], _, _ => by simp [clrAll]
  | i :: is, ρ, j => by
    unfold clrAll
    rw [getE_clr, getE_clrAll is ρ j]
    by_cases h : i = j
    · simp [h]
    · have h' : ¬ j = i := fun e => h e.symm
      simp [h, h']

section
variable {K : Frag} {A : List (Nat × Addr)} {G F H : Hp} {σ : L2.St} {ρ : Env}
theorem Own.grow {a : Addr} {xs : List PyData} {H' : Hp} (o : Own K G F H a xs) (s : Same H H') : Own K G F H' a xs :=
  let ⟨g, f, vs, h, d⟩ := o; ⟨g, f, vs, s _ _ h, d⟩
theorem Own.ne {a b : Addr} {xs : List PyData} (o : Own K G F H a xs) (h : H b = none) : a ≠ b := by
  obtain ⟨_, _, vs, e, _⟩ := o
  exact ne_of_none e h
theorem Rel.grow {H' : Hp} (R : Rel K A G F H σ ρ) (s : Same H H') : Rel K A G F H' σ ρ :=
  ⟨R.frm.trans s, R.sub.trans s, R.imm, fun i xs e => let ⟨a, h, o⟩ := R.own i xs e; ⟨a, h, o.grow s⟩, R.dis, R.pin, R.len⟩
theorem DnO.grow {v : V} {o : Ov} {H' : Hp} (h : DnO K G F H σ ρ v o) (s : Same H H') : DnO K G F H' σ ρ v o := by
  cases o with
  | imm d => exact h
  | own xs =>
    obtain ⟨a, e, o, n⟩ := h
    exact ⟨a, e, o.grow s, n⟩
/-- data wider -/
theorem Rel.wide {F' : Hp} (R : Rel K A G F H σ ρ) (e : Same F F') (s : Same F' H) (n : ∀ i xs a, getE ρ i = some (.own xs) → σ[i]? = some (some (.ref a)) → F' a = none) : Rel K A G F' H σ ρ :=
  ⟨R.frm, s, fun i d h => let ⟨v, h1, h2⟩ := R.imm i d h; ⟨v, h1, h2.mono e⟩, fun i xs h => let ⟨a, h1, g, f, vs, h2, d⟩ := R.own i xs h; ⟨a, h1, g, n i xs a h h1, vs, h2, d.mono e⟩, R.dis, R.pin, R.len⟩
theorem same_upd {H : Hp} {p : Addr} {o : HO} (h : H p = none) : Same H (upd H p o) := fun b x e => by
  rw [upd_ne (ne_of_none e h)]
  exact e
/-- an own list, not held by a slot, becomes data -/
theorem Rel.freeze {a : Addr} {xs : List PyData} (R : Rel K A G F H σ ρ) (o : Own K G F H a xs) (n : ∀ i ys, getE ρ i = some (.own ys) → σ[i]? ≠ some (some (.ref a))) :
    ∃ F', Ext G F F' ∧ Rel K A G F' H σ ρ ∧ Dn K F' (.ref a) (.list xs) := by
  obtain ⟨g, f, vs, h, d⟩ := o
  have e : Same F (upd F a (.lst vs)) := same_upd f
  refine ⟨upd F a (.lst vs), ⟨e, fun b hb gb => ?_⟩, R.wide e (fun b x q => ?_) fun i ys b hi hb => ?_, .lst upd_same (d.mono e)⟩
  · have : b ≠ a := fun z => gb (by rw [z]; exact g)
    rw [upd_ne this]; exact hb
  · by_cases z : b = a
    · subst z; rw [upd_same] at q; cases q; exact h
    · rw [upd_ne z] at q; exact R.sub _ _ q
  · have z : b ≠ a := fun z => n i ys hi (by rw [← z]; exact hb)
    rw [upd_ne z]
    obtain ⟨b', h1, _, f', _⟩ := R.own i ys hi
    rw [hb] at h1; cases h1
    exact f'
/-- a result as data -/
theorem Post.toD {o : Ov} {v : V} {H' : Hp} (h : Post K A G F σ ρ o v H') : PostD K A G F σ ρ o.d v H' := by
  obtain ⟨F', x, R, d⟩ := h
  cases o with
  | imm d' => exact ⟨F', x, R, d⟩
  | own xs =>
    obtain ⟨a, rfl, o, n⟩ := d
    obtain ⟨F2, x2, R2, d2⟩ := R.freeze o n
    exact ⟨F2, x.trans x2, R2, d2⟩
theorem PostD.toO {d : PyData} {v : V} {H' : Hp} (h : PostD K A G F σ ρ d v H') : Post K A G F σ ρ (.imm d) v H' := h
theorem Post.ext {F1 : Hp} {o : Ov} {v : V} {H' : Hp} (x : Ext G F F1) (h : Post K A G F1 σ ρ o v H') : Post K A G F σ ρ o v H' := by
  obtain ⟨F', y, R, d⟩ := h
  exact ⟨F', x.trans y, R, d⟩
/-- the slot of an own list: forgotten -/
theorem Rel.clr (R : Rel K A G F H σ ρ) (i : Nat) : Rel K A G F H σ (clrE ρ i) := by
  have g : ∀ j o, getE (clrE ρ i) j = some o → getE ρ j = some o := fun j o h => by
    rw [getE_clr] at h
    split at h
    · cases h
    · exact h
  exact ⟨R.frm, R.sub, fun j d h => R.imm j d (g _ _ h), fun j xs h => R.own j xs (g _ _ h), fun j k xs ys a h1 h2 => R.dis j k xs ys a (g _ _ h1) (g _ _ h2), R.pin, by rw [clrE_len]; exact R.len⟩
/-- a slot told anew: data -/
theorem Rel.setI {i : Nat} {d : PyData} {v : V} (R : Rel K A G F H σ ρ) (h : Dn K F v d) (hv : σ[i]? = some (some v)) : Rel K A G F H σ (setE ρ i (.imm d)) := by
  have g : ∀ j xs, getE (setE ρ i (.imm d)) j = some (.own xs) → getE ρ j = some (.own xs) := fun j xs h => by
    rw [getE_set] at h
    split at h
    · cases h
    · exact h
  refine ⟨R.frm, R.sub, fun j e q => ?_, fun j xs h => R.own j xs (g _ _ h), fun j k xs ys a h1 h2 => R.dis j k xs ys a (g _ _ h1) (g _ _ h2), R.pin, by rw [setE_len]; exact R.len⟩
  rw [getE_set] at q
  split at q
  · rename_i z
    cases q
    rw [← z.1]
    exact ⟨v, hv, h⟩
  · exact R.imm j e q
/-- a name is stored: data -/
theorem Rel.store {i : Nat} {d : PyData} {v : V} (R : Rel K A G F H σ ρ) (h : Dn K F v d) (hA : ∀ p ∈ A, p.1 ≠ i) : Rel K A G F H (σ.set i (some v)) (setE ρ i (.imm d)) := by
  have g : ∀ j xs, getE (setE ρ i (.imm d)) j = some (.own xs) → i ≠ j ∧ getE ρ j = some (.own xs) := fun j xs h => by
    rw [getE_set] at h
    split at h
    · cases h
    · rename_i z
      refine ⟨fun e => z ⟨e, ?_⟩, h⟩
      rw [e]; exact getE_lt h
  refine ⟨R.frm, R.sub, fun j e q => ?_, fun j xs h => ?_, fun j k xs ys a h1 h2 e1 e2 => ?_, fun p hp => ?_, by rw [setE_len, List.length_set]; exact R.len⟩
  · rw [getE_set] at q
    split at q
    · rename_i z
      cases q
      rw [← z.1, List.getElem?_set_self (by rw [← R.len]; exact z.2)]
      exact ⟨v, rfl, h⟩
    · rename_i z
      have hn : i ≠ j := fun e => z ⟨e, by rw [e]; exact getE_lt q⟩
      rw [List.getElem?_set_ne hn]
      exact R.imm j e q
  · obtain ⟨hn, h⟩ := g j xs h
    rw [List.getElem?_set_ne hn]
    exact R.own j xs h
  · obtain ⟨n1, h1⟩ := g j xs h1
    obtain ⟨n2, h2⟩ := g k ys h2
    rw [List.getElem?_set_ne n1] at e1
    rw [List.getElem?_set_ne n2] at e2
    exact R.dis j k xs ys a h1 h2 e1 e2
  · rw [List.getElem?_set_ne (hA p hp).symm]
    exact R.pin p hp
/-- .. an own list -/
theorem Rel.storeO {i : Nat} {xs : List PyData} {a : Addr} (R : Rel K A G F H σ ρ) (h : Own K G F H a xs) (n : ∀ i ys, getE ρ i = some (.own ys) → σ[i]? ≠ some (some (.ref a))) (hA : ∀ p ∈ A, p.1 ≠ i) :
    Rel K A G F H (σ.set i (some (.ref a))) (setE ρ i (.own xs)) := by
  have g : ∀ j ys, getE (setE ρ i (.own xs)) j = some (.own ys) → (i = j ∧ i < ρ.length ∧ ys = xs) ∨ (i ≠ j ∧ getE ρ j = some (.own ys)) := fun j ys h => by
    rw [getE_set] at h
    split at h
    · rename_i z
      cases h
      exact .inl ⟨z.1, z.2, rfl⟩
    · rename_i z
      refine .inr ⟨fun e => z ⟨e, ?_⟩, h⟩
      rw [e]; exact getE_lt h
  refine ⟨R.frm, R.sub, fun j e q => ?_, fun j ys h' => ?_, fun j k xs ys b h1 h2 e1 e2 => ?_, fun p hp => ?_, by rw [setE_len, List.length_set]; exact R.len⟩
  · rw [getE_set] at q
    split at q
    · cases q
    · rename_i z
      have hn : i ≠ j := fun e => z ⟨e, by rw [e]; exact getE_lt q⟩
      rw [List.getElem?_set_ne hn]
      exact R.imm j e q
  · rcases g j ys h' with ⟨rfl, hl, rfl⟩ | ⟨hn, h'⟩
    · rw [List.getElem?_set_self (by rw [← R.len]; exact hl)]
      exact ⟨a, rfl, h⟩
    · rw [List.getElem?_set_ne hn]
      exact R.own j ys h'
  · rcases g j _ h1 with ⟨rfl, hl, rfl⟩ | ⟨hn, p1⟩
    · rw [List.getElem?_set_self (by rw [← R.len]; exact hl)] at e1
      cases e1
      rcases g k _ h2 with ⟨rfl, _, _⟩ | ⟨hn2, p2⟩
      · rfl
      · rw [List.getElem?_set_ne hn2] at e2
        exact absurd e2 (n k _ p2)
    · rw [List.getElem?_set_ne hn] at e1
      rcases g k _ h2 with ⟨rfl, hl, rfl⟩ | ⟨hn2, p2⟩
      · rw [List.getElem?_set_self (by rw [← R.len]; exact hl)] at e2
        cases e2
        exact absurd e1 (n j _ p1)
      · rw [List.getElem?_set_ne hn2] at e2
        exact R.dis j k _ _ b p1 p2 e1 e2
  · rw [List.getElem?_set_ne (hA p hp).symm]
    exact R.pin p hp
/-- the own list of a slot is written -/
theorem Rel.write {i : Nat} {xs ys : List PyData} {vs ws : List V} {a : Addr} (R : Rel K A G F H σ ρ) (h : getE ρ i = some (.own xs)) (hv : σ[i]? = some (some (.ref a))) (hl : H a = some (.lst vs)) (d : DnA K F ws ys) :
    Rel K A G F (upd H a (.lst ws)) σ (setE ρ i (.own ys)) := by
  obtain ⟨a', e, g, f, _⟩ := R.own i xs h
  rw [hv] at e; cases e
  have s : ∀ T : Hp, T a = none → Same T H → Same T (upd H a (.lst ws)) := fun T t s b o q => by
    have z : b ≠ a := fun z => by rw [z, t] at q; cases q
    rw [upd_ne z]
    exact s b o q
  have gg : ∀ j zs, getE (setE ρ i (.own ys)) j = some (.own zs) → (i = j ∧ zs = ys) ∨ (i ≠ j ∧ getE ρ j = some (.own zs)) := fun j zs h => by
    rw [getE_set] at h
    split at h
    · rename_i z
      cases h
      exact .inl ⟨z.1, rfl⟩
    · rename_i z
      refine .inr ⟨fun e => z ⟨e, ?_⟩, h⟩
      rw [e]; exact getE_lt h
  refine ⟨s G g R.frm, s F f R.sub, fun j e q => ?_, fun j zs q => ?_, fun j k us zs b h1 h2 e1 e2 => ?_, R.pin, by rw [setE_len]; exact R.len⟩
  · rw [getE_set] at q
    split at q
    · cases q
    · exact R.imm j e q
  · rcases gg j zs q with ⟨rfl, rfl⟩ | ⟨hn, q⟩
    · exact ⟨a, hv, g, f, ws, upd_same, d⟩
    · obtain ⟨b, e1, g1, f1, us, e2, d2⟩ := R.own j zs q
      refine ⟨b, e1, g1, f1, us, ?_, d2⟩
      have z : b ≠ a := fun z => hn (R.dis i j xs zs a h q hv (by rw [← z]; exact e1))
      rw [upd_ne z]; exact e2
  · have o1 : ∃ us, getE ρ j = some (.own us) := by
      rcases gg j _ h1 with ⟨rfl, _⟩ | ⟨_, q⟩
      · exact ⟨_, h⟩
      · exact ⟨_, q⟩
    have o2 : ∃ us, getE ρ k = some (.own us) := by
      rcases gg k _ h2 with ⟨rfl, _⟩ | ⟨_, q⟩
      · exact ⟨_, h⟩
      · exact ⟨_, q⟩
    obtain ⟨us1, o1⟩ := o1
    obtain ⟨us2, o2⟩ := o2
    exact R.dis j k us1 us2 b o1 o2 e1 e2
end
end Ev
set_option Elab.async false
set_option linter.all false
set_option maxRecDepth 100000
/-! Ev3: expressions. -/
namespace Ev
open PySem PySem.Spec PyProof.Rows L2

/-! ### judgements -/
structure SE (X : Cx) (A : List (Nat × Addr)) (G : Hp) (cs : CS) (e : Expr) (ie : IE) : Prop where
  run : ∀ (pins : List (Addr × Obj)) (s : Shared) (σ : L2.St) (H F : Hp) (ρ : Env) (o : Ov) (ρ' : Env), Inv X pins σ H s → Rel X.K A G F H σ ρ → ev cs ie ρ = some (o, ρ') →
    wpAny (model X.prog X.w) X.A (eval e X.env) (EP X pins σ (Post X.K A G F σ ρ' o)) X.xe s
/-- as a test -/
def PostT (K : Frag) (A : List (Nat × Addr)) (G F : Hp) (σ : L2.St) (ρ : Env) (b : Bool) : Bool → Hp → Prop := fun c H' => c = b ∧ ∃ F', Ext G F F' ∧ Rel K A G F' H' σ ρ
structure ST (X : Cx) (A : List (Nat × Addr)) (G : Hp) (cs : CS) (e : Expr) (it : IT) : Prop where
  run : ∀ (pins : List (Addr × Obj)) (s : Shared) (σ : L2.St) (H F : Hp) (ρ : Env) (b : Bool) (ρ' : Env), Inv X pins σ H s → Rel X.K A G F H σ ρ → evT cs it ρ = some (b, ρ') →
    wpAny (model X.prog X.w) X.A (isTrue e X.env (eval e X.env)) (TP X pins σ (PostT X.K A G F σ ρ' b)) X.xe s
/-- a test whatever its whole is -/
structure SW (X : Cx) (A : List (Nat × Addr)) (G : Hp) (cs : CS) (e : Expr) (it : IT) : Prop where
  run : ∀ (whole : Sem Value) (pins : List (Addr × Obj)) (s : Shared) (σ : L2.St) (H F : Hp) (ρ : Env) (b : Bool) (ρ' : Env), Inv X pins σ H s → Rel X.K A G F H σ ρ → evT cs it ρ = some (b, ρ') →
    wpAny (model X.prog X.w) X.A (isTrue e X.env whole) (TP X pins σ (PostT X.K A G F σ ρ' b)) X.xe s
/-- a test as a value: True or False -/
structure SB (X : Cx) (A : List (Nat × Addr)) (G : Hp) (cs : CS) (e : Expr) (it : IT) : Prop where
  run : ∀ (pins : List (Addr × Obj)) (s : Shared) (σ : L2.St) (H F : Hp) (ρ : Env) (b : Bool) (ρ' : Env), Inv X pins σ H s → Rel X.K A G F H σ ρ → evT cs it ρ = some (b, ρ') →
    wpAny (model X.prog X.w) X.A (eval e X.env) (EP X pins σ (PostD X.K A G F σ ρ' (.bool b))) X.xe s
inductive ArV (K : Frag) (F : Hp) (σ : L2.St) : List V → List Ar → Prop
  | nil : ArV K F σ [] []
  | d {v : V} {d : PyData} {vs : List V} {ars : List Ar} : Dn K F v d → ArV K F σ vs ars → ArV K F σ (v :: vs) (.d d :: ars)
  | r {v : V} {x : Nat} {vs : List V} {ars : List Ar} : σ[x]? = some (some v) → ArV K F σ vs ars → ArV K F σ (v :: vs) (.r x :: ars)
def PostA (K : Frag) (A : List (Nat × Addr)) (G F : Hp) (σ : L2.St) (ρ : Env) (ars : List Ar) : List V → Hp → Prop := fun vs H' => ∃ F', Ext G F F' ∧ Rel K A G F' H' σ ρ ∧ ArV K F' σ vs ars
structure SA (X : Cx) (A : List (Nat × Addr)) (G : Hp) (cs : CS) (es : List Expr) (ies : IEs) : Prop where
  run : ∀ (pos : Pos) (pins : List (Addr × Obj)) (s : Shared) (σ : L2.St) (H F : Hp) (ρ : Env) (ars : List Ar) (ρ' : Env), Inv X pins σ H s → Rel X.K A G F H σ ρ → evs cs ies ρ = some (ars, ρ') →
    wpAny (model X.prog X.w) X.A (spliced (backTo pos (starEach es X.env))) (AP X pins σ (PostA X.K A G F σ ρ' ars)) X.xe s
theorem ArV.mono {K : Frag} {F F' : Hp} {σ : L2.St} (s : Same F F') : ∀ {vs : List V} {ars : List Ar}, ArV K F σ vs ars → ArV K F' σ vs ars
  | _, _, .nil => .nil
  | _, _, .d h q => .d (h.mono s) (q.mono s)
  | _, _, .r h q => .r h (q.mono s)
theorem ArV.asD {K : Frag} {F : Hp} {σ : L2.St} : ∀ {vs : List V} {ars : List Ar} {ds : List PyData}, ArV K F σ vs ars → asD ars = some ds → DnA K F vs ds
  | _, _, _, .nil, e => by cases e; exact .nil
  | _, _, _, .d h q, e => by
    unfold Ev.asD at e
    obtain ⟨es, e1, rfl⟩ := Option.map_eq_some_iff.mp e
    exact .cons h (q.asD e1)
  | _, _, _, .r h q, e => by cases e

section
variable {X : Cx} {A : List (Nat × Addr)} {G : Hp} {cs : CS} {pins : List (Addr × Obj)} {s : Shared} {σ : L2.St} {H F : Hp} {ρ ρ' : Env} {o : Ov}
theorem SE.d {e : Expr} {ie : IE} (h : SE X A G cs e ie) (I : Inv X pins σ H s) (R : Rel X.K A G F H σ ρ) (he : ev cs ie ρ = some (o, ρ')) :
    wpAny (model X.prog X.w) X.A (eval e X.env) (EP X pins σ (PostD X.K A G F σ ρ' o.d)) X.xe s := thn (h.run pins s σ H F ρ o ρ' I R he) fun u s' ⟨v, H', I', r, q⟩ => ⟨v, H', I', r, q.toD⟩
/-- on from data -/
theorem SE.on {e : Expr} {ie : IE} {Q : Value → Shared → Prop} (h : SE X A G cs e ie) (I : Inv X pins σ H s) (R : Rel X.K A G F H σ ρ) (he : ev cs ie ρ = some (o, ρ'))
    (k : ∀ u s' v H' F', Inv X pins σ H' s' → RelV v u → Ext G F F' → Rel X.K A G F' H' σ ρ' → Dn X.K F' v o.d → Q u s') : wpAny (model X.prog X.w) X.A (eval e X.env) Q X.xe s :=
  thn (h.d I R he) fun u s' ⟨v, H', I', r, F', x, R', d⟩ => k u s' v H' F' I' r x R' d
theorem ext_ep {F1 : Hp} {u : Value} {s' : Shared} (x : Ext G F F1) (h : EP X pins σ (Post X.K A G F1 σ ρ o) u s') : EP X pins σ (Post X.K A G F σ ρ o) u s' := by
  obtain ⟨v, H', I, r, q⟩ := h
  exact ⟨v, H', I, r, q.ext x⟩
theorem ext_epd {F1 : Hp} {u : Value} {s' : Shared} {d : PyData} (x : Ext G F F1) (h : EP X pins σ (PostD X.K A G F1 σ ρ d) u s') : EP X pins σ (PostD X.K A G F σ ρ d) u s' := by
  obtain ⟨v, H', I, r, F', y, R, q⟩ := h
  exact ⟨v, H', I, r, F', x.trans y, R, q⟩
theorem ext_tp {F1 : Hp} {b c : Bool} {s' : Shared} (x : Ext G F F1) (h : TP X pins σ (PostT X.K A G F1 σ ρ b) c s') : TP X pins σ (PostT X.K A G F σ ρ b) c s' := by
  obtain ⟨H', I, e, F', y, R⟩ := h
  exact ⟨H', I, e, F', x.trans y, R⟩
/-- nothing changed -/
theorem Rel.post {K : Frag} {v : V} {d : PyData} (R : Rel K A G F H σ ρ) (h : Dn K F v d) : Post K A G F σ ρ (.imm d) v H := ⟨F, .refl, R, h⟩
/-- a new list -/
theorem Rel.newL {K : Frag} {p : Addr} {vs : List V} {ds : List PyData} (R : Rel K A G F H σ ρ) (hp : H p = none) (h : DnA K F vs ds) : Post K A G F σ ρ (.own ds) (.ref p) (upd H p (.lst vs)) := by
  refine ⟨F, .refl, R.grow (same_upd hp), p, rfl, ⟨R.frm.free hp, R.sub.free hp, vs, upd_same, h⟩, fun i ys hi e => ?_⟩
  obtain ⟨a, h1, o⟩ := R.own i ys hi
  rw [e] at h1; cases h1
  exact o.ne hp rfl
/-- a new tuple -/
theorem Rel.newT {K : Frag} {p : Addr} {vs : List V} {ds : List PyData} (R : Rel K A G F H σ ρ) (hp : H p = none) (h : DnA K F vs ds) : Post K A G F σ ρ (.imm (.tuple ds)) (.ref p) (upd H p (.tup vs)) := by
  have hf := R.sub.free hp
  have e : Same F (upd F p (.tup vs)) := same_upd hf
  refine ⟨upd F p (.tup vs), ⟨e, fun b hb gb => ?_⟩, (R.grow (same_upd hp)).wide e (fun b x q => ?_) (fun i ys b hi hb => ?_), .tup (.inl (.inl upd_same)) (h.mono e)⟩
  · have z : b ≠ p := fun z => gb (by rw [z]; exact R.frm.free hp)
    rw [upd_ne z]; exact hb
  · by_cases z : b = p
    · subst z; rw [upd_same] at q ⊢; exact q
    · rw [upd_ne z] at q ⊢; exact R.sub _ _ q
  · obtain ⟨a, h1, o⟩ := R.own i ys hi
    rw [hb] at h1; cases h1
    rw [upd_ne (o.ne hp)]
    exact o.2.1

/-! ### names and constants -/
theorem se_int {i : Int} {j : Nat} {pos : Pos} : SE X A G cs (.Constant (.int i) j pos) (.lit (.int i)) :=
  ⟨fun pins s σ H F ρ o ρ' I R e => by cases e; exact pe_int.run pins s σ H _ I (R.post (.int i))⟩
theorem se_bl {b : Bool} {j : Nat} {pos : Pos} : SE X A G cs (.Constant (.bool b) j pos) (.lit (.bool b)) :=
  ⟨fun pins s σ H F ρ o ρ' I R e => by cases e; exact pe_bl.run pins s σ H _ I (R.post (.bl b))⟩
theorem se_non {j : Nat} {pos : Pos} : SE X A G cs (.Constant .none j pos) (.lit .none) :=
  ⟨fun pins s σ H F ρ o ρ' I R e => by cases e; exact pe_non.run pins s σ H _ I (R.post .non)⟩
theorem se_str {x : Str} {j : Nat} {pos : Pos} : SE X A G cs (.Constant (.str x) j pos) (.lit (.str x)) :=
  ⟨fun pins s σ H F ρ o ρ' I R e => by cases e; exact pe_str.run pins s σ H _ I (R.post (.str x))⟩
/-- a module's constant -/
theorem se_glob {x : Str} {v : V} {u : Value} {c : PyData} {pos : Pos} (hg : Gl X x) (hm : X.mg x = some u) (r : RelV v u) (hd : Dn X.K (fun _ => none) v c) (hdb : (x == ("__debug__" : Str)) = false := by decide) : SE X A G cs (.Name x pos) (.glob c) :=
  ⟨fun pins s σ H F ρ o ρ' I R e => by cases e; exact (pe_glob hg hm r hdb).run pins s σ H _ I (R.post (hd.mono (by intro b o z; cases z)))⟩
theorem se_globX {x : Str} {c : PyData} {pos : Pos} (hg : Gl X x) (h : ∃ v u, X.mg x = some u ∧ RelV v u ∧ Dn X.K (fun _ => none) v c) (hdb : (x == ("__debug__" : Str)) = false := by decide) : SE X A G cs (.Name x pos) (.glob c) := by
  obtain ⟨v, u, hm, r, hd⟩ := h
  exact se_glob hg hm r hd hdb
theorem se_nope {e : Expr} : SE X A G cs e .nope := ⟨fun pins s σ H F ρ o ρ' I R e => by cases e⟩
theorem se_var {i : Nat} {x : Str} {pos : Pos} (hN : X.N[i]? = some x := by rfl) (hv : Vis X.env.scope x := by first | exact Or.inl rfl | exact Or.inr (Or.inl rfl) | exact Or.inr (Or.inr rfl)) (hd : (x == ("__debug__" : Str)) = false := by decide)
    (hcd : (x == ("__classdict__" : Str)) = false := by decide) : SE X A G cs (.Name x pos) (.var i) := by
  refine ⟨fun pins s σ H F ρ o ρ' I R e => ?_⟩
  unfold ev at e
  obtain ⟨o1, e1, e2⟩ := Option.map_eq_some_iff.mp e
  cases e2
  cases o1 with
  | imm d =>
    obtain ⟨v, h1, h2⟩ := R.imm i d e1
    exact (pe_var hN hv hd hcd).run pins s σ H _ I ⟨v, h1, F, .refl, R.setI h2 h1, h2⟩
  | own xs =>
    obtain ⟨a, h1, o⟩ := R.own i xs e1
    have R2 := R.clr i
    obtain ⟨F', x, R3, d⟩ := R2.freeze o fun j ys hj hs => by
      rw [getE_clr] at hj
      split at hj
      · cases hj
      · rename_i z
        exact z (R.dis i j xs ys a e1 hj h1 hs)
    refine (pe_var hN hv hd hcd).run pins s σ H _ I ⟨_, h1, F', x, ?_, d⟩
    have e3 : setE (clrE ρ i) i (.imm (.list xs)) = setE ρ i (.imm (.list xs)) := by unfold setE clrE; simp
    show Rel X.K A G F' H σ (setE ρ i (.imm (.list xs)))
    rw [← e3]
    exact R3.setI d h1
/-- the value of a slot that is only looked at -/
theorem Rel.peek {i : Nat} {o : Ov} (R : Rel X.K A G F H σ ρ) (e : getE ρ i = some o) : ∃ v, σ[i]? = some (some v) ∧ Dn X.K H v o.d := by
  cases o with
  | imm d =>
    obtain ⟨v, h1, h2⟩ := R.imm i d e
    exact ⟨v, h1, h2.mono R.sub⟩
  | own xs =>
    obtain ⟨a, h1, _, _, vs, h2, d⟩ := R.own i xs e
    exact ⟨_, h1, .lst h2 (d.mono R.sub)⟩

/-! ### operators -/
/-- an operator by values -/
def BinR (X : Cx) (f : Value → Value → Sem Value) (g : PyData → PyData → Option Ov) : Prop :=
  ∀ (A : List (Nat × Addr)) (G : Hp) (pins : List (Addr × Obj)) (s : Shared) (σ : L2.St) (H F : Hp) (ρ : Env) (v1 v2 : V) (u1 u2 : Value) (d1 d2 : PyData) (o : Ov), Inv X pins σ H s → Rel X.K A G F H σ ρ → RelV v1 u1 → RelV v2 u2 → Dn X.K F v1 d1 → Dn X.K F v2 d2 →
    g d1 d2 = some o → wpAny (model X.prog X.w) X.A (f u1 u2) (EP X pins σ (Post X.K A G F σ ρ o)) X.xe s
theorem se_bin {op : Operator} {bop : BOp} {a b : Expr} {ia ib : IE} {pos : Pos} (ho : BinR X (binaryOp op) (binD bop)) (ha : SE X A G cs a ia) (hb : SE X A G cs b ib) : SE X A G cs (.BinOp a op b pos) (.bin bop ia ib) := by
  refine ⟨fun pins s σ H F ρ o ρ' I R e => ?_⟩
  unfold ev at e
  obtain ⟨⟨o1, ρ1⟩, e1, e⟩ := Option.bind_eq_some_iff.mp e
  obtain ⟨⟨o2, ρ2⟩, e2, e⟩ := Option.bind_eq_some_iff.mp e
  obtain ⟨o3, e3, e⟩ := Option.map_eq_some_iff.mp e
  cases e
  refine wpAny_BinOp (ha.on I R e1 fun u1 s1 v1 H1 F1 I1 r1 x1 R1 d1 => hb.on I1 R1 e2 fun u2 s2 v2 H2 F2 I2 r2 x2 R2 d2 => ?_)
  exact thn (ho A G pins s2 σ H2 F2 _ v1 v2 u1 u2 _ _ o I2 R2 r1 r2 (d1.mono x2.le) d2 e3) fun u s' h => ext_ep (x1.trans x2) h
theorem ll_eq : (ll : Nat) = sizeLine := by rw [sizeLine_eq]; rfl
theorem mulOk_w {i j : Int} (h : mulOk i j = true) : CMulW i j := by
  unfold mulOk at h
  show i.natAbs.log2 + j.natAbs.log2 < 1000000
  exact of_decide_eq_true h
theorem br_add : BinR X (binaryOp .Add) (binD .add) := by
  intro A G pins s σ H F ρ v1 v2 u1 u2 d1 d2 o I R r1 r2 h1 h2 e
  unfold binD at e
  split at e <;> first | (cases e; done) | skip
  all_goals (rename_i q; cases q)
  · cases e; cases h1; cases h2
    exact op_add pins s σ H _ _ u1 u2 _ I r1 r2 ⟨_, _, rfl, rfl, R.post (.int _)⟩
  · cases h1; cases h2
    split at e
    · rename_i hl
      cases e
      exact op_add_str pins s σ H _ _ u1 u2 _ I r1 r2 ⟨_, _, rfl, rfl, by rw [← ll_eq]; exact hl, R.post (.str _)⟩
    · cases e
  · cases h1 with
    | lst a1 b1 => cases h2 with
      | lst a2 b2 =>
        split at e
        · rename_i hl
          cases e
          exact op_cat pins s σ H _ _ u1 u2 _ I r1 r2 ⟨_, _, _, _, rfl, rfl, R.sub _ _ a1, R.sub _ _ a2, by rw [b1.len, b2.len, ← ll_eq]; exact hl, fun p hp => R.newL hp (b1.app b2)⟩
        · cases e
  · cases h1 with
    | tup a1 b1 => cases h2 with
      | tup a2 b2 =>
        split at e
        · rename_i hl
          cases e
          refine op_catT pins s σ H _ _ u1 u2 _ I r1 r2 ⟨_, _, _, _, rfl, rfl, sqT_same R.sub a1, sqT_same R.sub a2, fun z => hl.2 ?_, by rw [b1.len, b2.len, ← ll_eq]; exact hl.1, fun z => ?_, fun z p hp => R.newT hp (b1.app b2)⟩
          · have := b1.len; rw [z] at this; exact List.eq_nil_of_length_eq_zero this.symm
          · have := b2.len; rw [z] at this
            rw [List.eq_nil_of_length_eq_zero this.symm, List.append_nil]
            exact R.post (.tup a1 b1)
        · cases e
theorem br_sub : BinR X (binaryOp .Sub) (binD .sub) := by
  intro A G pins s σ H F ρ v1 v2 u1 u2 d1 d2 o I R r1 r2 h1 h2 e
  unfold binD at e
  split at e <;> first | (cases e; done) | skip
  all_goals (rename_i q; cases q)
  cases e; cases h1; cases h2
  exact op_sub pins s σ H _ _ u1 u2 _ I r1 r2 ⟨_, _, rfl, rfl, R.post (.int _)⟩
theorem br_mul : BinR X (binaryOp .Mult) (binD .mul) := by
  intro A G pins s σ H F ρ v1 v2 u1 u2 d1 d2 o I R r1 r2 h1 h2 e
  unfold binD at e
  split at e <;> first | (cases e; done) | skip
  all_goals (rename_i q; cases q)
  · cases h1; cases h2
    split at e
    · rename_i hl
      cases e
      exact op_mulW pins s σ H _ _ u1 u2 _ I r1 r2 ⟨_, _, rfl, rfl, mulOk_w hl, R.post (.int _)⟩
    · cases e
  · cases h2
    cases h1 with
    | lst a1 b1 =>
      split at e
      · rename_i hl
        cases e
        unfold repOk at hl
        simp only [Bool.and_eq_true, decide_eq_true_eq] at hl
        exact op_rep pins s σ H _ _ u1 u2 _ I r1 r2 ⟨_, _, _, rfl, rfl, R.sub _ _ a1, hl.1.1, hl.1.2, by rw [b1.len, ← ll_eq]; exact hl.2, fun p hp => R.newL hp (b1.flat _)⟩
      · cases e
theorem op_fdivX : OpR X (binaryOp .FloorDiv) (rI (fun _ j => divOk j = true) fun i j => .int (i.fdiv j)) := opI fun i j _ _ _ _ _ hc q => by
  unfold divOk at hc
  simp only [Bool.and_eq_true, decide_eq_true_eq] at hc
  exact floordiv_int hc.1 q (.inl (PyProof.noPylong_of_log2 hc.2))
theorem br_fdiv : BinR X (binaryOp .FloorDiv) (binD .fdiv) := by
  intro A G pins s σ H F ρ v1 v2 u1 u2 d1 d2 o I R r1 r2 h1 h2 e
  unfold binD at e
  split at e <;> first | (cases e; done) | skip
  all_goals (rename_i q; cases q)
  cases h1; cases h2
  split at e
  · rename_i hl
    cases e
    exact op_fdivX pins s σ H _ _ u1 u2 _ I r1 r2 ⟨_, _, rfl, rfl, hl, R.post (.int _)⟩
  · cases e
theorem br_mod : BinR X (binaryOp .Mod) (binD .mod) := by
  intro A G pins s σ H F ρ v1 v2 u1 u2 d1 d2 o I R r1 r2 h1 h2 e
  unfold binD at e
  split at e <;> first | (cases e; done) | skip
  all_goals (rename_i q; cases q)
  cases h1; cases h2
  split at e
  · rename_i hl
    cases e
    exact op_modN pins s σ H _ _ u1 u2 _ I r1 r2 ⟨_, _, rfl, rfl, hl, R.post (.int _)⟩
  · cases e
theorem br_pow : BinR X (binaryOp .Pow) (binD .pow) := by
  intro A G pins s σ H F ρ v1 v2 u1 u2 d1 d2 o I R r1 r2 h1 h2 e
  unfold binD at e
  split at e <;> first | (cases e; done) | skip
  all_goals (rename_i q; cases q)
  cases h1; cases h2
  split at e
  · rename_i hl
    cases e
    unfold powOk at hl
    simp only [Bool.and_eq_true, decide_eq_true_eq] at hl
    exact op_pow pins s σ H _ _ u1 u2 _ I r1 r2 ⟨_, _, rfl, rfl, ⟨hl.1.1, hl.1.2, hl.2⟩, R.post (.int _)⟩
  · cases e
theorem se_neg {a : Expr} {ia : IE} {pos : Pos} (ha : SE X A G cs a ia) : SE X A G cs (.UnaryOp .USub a pos) (.neg ia) := by
  refine ⟨fun pins s σ H F ρ o ρ' I R e => ?_⟩
  unfold ev at e
  obtain ⟨⟨o1, ρ1⟩, e1, e⟩ := Option.bind_eq_some_iff.mp e
  obtain ⟨i, e3, e⟩ := Option.map_eq_some_iff.mp e
  cases e
  refine UnaryOp_ (ha.on I R e1 fun u1 s1 v1 H1 F1 I1 r1 x1 R1 d1 => ?_)
  have hd : o1.d = .int i := by
    cases q : o1.d <;> rw [q] at e3 <;> first | (cases e3; rfl) | cases e3
  rw [hd] at d1
  cases d1
  exact thn (un_neg pins s1 σ H1 _ u1 _ I1 r1 ⟨_, rfl, R1.post (.int _)⟩) fun u s' h => ext_ep x1 h
end
end Ev
set_option Elab.async false
set_option linter.all false
set_option maxRecDepth 100000
/-! Ev4: displays, places, calls of built-ins, tests. -/
namespace Ev
open PySem PySem.Spec PyProof.Rows L2

/-- the sizes of what stands in the heap -/
def Szs (K : Frag) (H : Hp) : Prop := ∀ a xs, (SqL K H a xs ∨ SqT K H a xs) → xs.length ≤ sizeLine
theorem szs_of {X : Cx} {pins : List (Addr × Obj)} {σ : L2.St} {H : Hp} {s : Shared} (I : Inv X pins σ H s) : Szs X.K H := fun a xs h => by
  rcases h with h | h
  · obtain ⟨_, _, _, z⟩ := I.list h; exact z
  · obtain ⟨_, _, _, z⟩ := I.tuple h; exact z
section
variable {X : Cx} {A : List (Nat × Addr)} {G : Hp} {cs : CS} {pins : List (Addr × Obj)} {s : Shared} {σ : L2.St} {H F : Hp} {ρ ρ' : Env} {o : Ov}
/-! ### as readings of HandS -/
def tEv (K : Frag) (A : List (Nat × Addr)) (G : Hp) (cs : CS) (ie : IE) : TE := fun σ H Q => ∃ F ρ o ρ', Rel K A G F H σ ρ ∧ ev cs ie ρ = some (o, ρ') ∧ ∀ v H', Szs K H' → Post K A G F σ ρ' o v H' → Q v H'
theorem SE.pe {e : Expr} {ie : IE} (h : SE X A G cs e ie) : PE X e (tEv X.K A G cs ie) := by
  refine ⟨fun pins s σ H Q I q => ?_⟩
  obtain ⟨F, ρ, o, ρ', R, he, k⟩ := q
  exact thn (h.run pins s σ H F ρ o ρ' I R he) fun u s' ⟨v, H', I', r, p⟩ => ⟨v, H', I', r, k v H' (szs_of I') p⟩
def tEvA (K : Frag) (A : List (Nat × Addr)) (G : Hp) (cs : CS) (ies : IEs) : TA := fun σ H Q => ∃ F ρ ars ρ', Rel K A G F H σ ρ ∧ evs cs ies ρ = some (ars, ρ') ∧ ∀ vs H', Szs K H' → PostA K A G F σ ρ' ars vs H' → Q vs H'
theorem SA.pa {es : List Expr} {ies : IEs} (h : SA X A G cs es ies) : PA X es (tEvA X.K A G cs ies) := by
  refine ⟨fun pos pins s σ H Q I q => ?_⟩
  obtain ⟨F, ρ, ars, ρ', R, he, k⟩ := q
  exact thn (h.run pos pins s σ H F ρ ars ρ' I R he) fun us s' ⟨vs, H', I', r, p⟩ => ⟨vs, H', I', r, k vs H' (szs_of I') p⟩
def tEvT (K : Frag) (A : List (Nat × Addr)) (G : Hp) (cs : CS) (it : IT) : TT := fun σ H Q => ∃ F ρ b ρ', Rel K A G F H σ ρ ∧ evT cs it ρ = some (b, ρ') ∧ ∀ F' H', Ext G F F' → Rel K A G F' H' σ ρ' → Q b H'
theorem ST.pt {e : Expr} {it : IT} (h : ST X A G cs e it) : PT X e (tEvT X.K A G cs it) := by
  refine ⟨fun pins s σ H Q I q => ?_⟩
  obtain ⟨F, ρ, b, ρ', R, he, k⟩ := q
  exact thn (h.run pins s σ H F ρ b ρ' I R he) fun c s' ⟨H', I', e, F', x, R'⟩ => ⟨H', I', by subst e; exact k F' H' x R'⟩

/-! ### arguments -/
theorem sa_nil : SA X A G cs [] .nil := ⟨fun pos pins s σ H F ρ ars ρ' I R e => by
  cases e
  exact Calls.spliced_nil ⟨[], H, I, .nil, F, .refl, R, .nil⟩⟩
theorem sa_cons {e : Expr} {es : List Expr} {ie : IE} {ies : IEs} (ha : SE X A G cs e ie) (hr : SA X A G cs es ies) (hs : starEach (e :: es) X.env = (false, eval e X.env) :: starEach es X.env := by rfl) : SA X A G cs (e :: es) (.cons ie ies) := by
  refine ⟨fun pos pins s σ H F ρ ars ρ' I R e => ?_⟩
  unfold evs at e
  obtain ⟨⟨o1, ρ1⟩, e1, e⟩ := Option.bind_eq_some_iff.mp e
  obtain ⟨⟨as, ρ2⟩, e2, e⟩ := Option.map_eq_some_iff.mp e
  cases e
  rw [hs]
  show wpAny _ _ (spliced ((false, eval _ X.env) :: backTo pos (starEach es X.env))) _ _ s
  refine Calls.spliced_cons (ha.on I R e1 fun u1 s1 v1 H1 F1 I1 r1 x1 R1 d1 => ?_)
  exact thn (hr.run pos pins s1 σ H1 F1 ρ1 as _ I1 R1 e2) fun us s2 ⟨vs, H2, I2, r2, F2, x2, R2, a2⟩ => ⟨v1 :: vs, H2, I2, .cons r1 r2, F2, x1.trans x2, R2, .d (d1.mono x2.le) a2⟩
theorem sa_ref {x : Str} {i : Nat} {p : Pos} {es : List Expr} {ies : IEs} (hr : SA X A G cs es ies) (hN : X.N[i]? = some x := by rfl) (hv : Vis X.env.scope x := by first | exact Or.inl rfl | exact Or.inr (Or.inl rfl) | exact Or.inr (Or.inr rfl))
    (hd : (x == ("__debug__" : Str)) = false := by decide) (hcd : (x == ("__classdict__" : Str)) = false := by decide) (hs : starEach (Expr.Name x p :: es) X.env = (false, eval (.Name x p) X.env) :: starEach es X.env := by rfl) : SA X A G cs (.Name x p :: es) (.ref i ies) := by
  refine ⟨fun pos pins s σ H F ρ ars ρ' I R e => ?_⟩
  unfold evs at e
  obtain ⟨o1, e1, e⟩ := Option.bind_eq_some_iff.mp e
  obtain ⟨⟨as, ρ2⟩, e2, e⟩ := Option.map_eq_some_iff.mp e
  cases e
  obtain ⟨v, h1, _⟩ := R.peek e1
  rw [hs]
  show wpAny _ _ (spliced ((false, eval _ X.env) :: backTo pos (starEach es X.env))) _ _ s
  refine Calls.spliced_cons (thn ((pe_var hN hv hd hcd).run pins s σ H (fun v' H' => v' = v ∧ H' = H) I ⟨v, h1, rfl, rfl⟩) fun u1 s1 ⟨v1, H1, I1, r1, ev, eh⟩ => ?_)
  subst ev eh
  exact thn (hr.run pos pins s1 σ H1 F ρ as _ I1 R e2) fun us s2 ⟨vs, H2, I2, r2, F2, x2, R2, a2⟩ => ⟨v1 :: vs, H2, I2, .cons r1 r2, F2, x2, R2, .r h1 a2⟩
theorem se_tup {es : List Expr} {ies : IEs} {k : Nat} {pos : Pos} (ha : SA X A G cs es ies) : SE X A G cs (.Tuple es k pos) (.tup ies) := by
  refine ⟨fun pins s σ H F ρ o ρ' I R e => ?_⟩
  unfold ev at e
  obtain ⟨⟨as, ρ1⟩, e1, e⟩ := Option.bind_eq_some_iff.mp e
  obtain ⟨ds, e2, e⟩ := Option.bind_eq_some_iff.mp e
  split at e
  · rename_i hl
    cases e
    refine (pe_tup ha.pa).run pins s σ H _ I ⟨F, ρ, as, _, R, e1, fun vs H' _ ⟨F', x, R', av⟩ => ?_⟩
    have dv := av.asD e2
    exact ⟨by rw [dv.len, ← ll_eq]; exact hl, fun p hp => (R'.newT hp dv).ext x⟩
  · cases e
theorem se_lst {es : List Expr} {ies : IEs} {pos : Pos} (ha : SA X A G cs es ies) : SE X A G cs (.List es pos) (.lst ies) := by
  refine ⟨fun pins s σ H F ρ o ρ' I R e => ?_⟩
  unfold ev at e
  obtain ⟨⟨as, ρ1⟩, e1, e⟩ := Option.bind_eq_some_iff.mp e
  obtain ⟨ds, e2, e⟩ := Option.bind_eq_some_iff.mp e
  split at e
  · rename_i hl
    cases e
    refine (pe_lst ha.pa).run pins s σ H _ I ⟨F, ρ, as, _, R, e1, fun vs H' _ ⟨F', x, R', av⟩ => ?_⟩
    have dv := av.asD e2
    exact ⟨by rw [dv.len, ← ll_eq]; exact hl, fun p hp => (R'.newL hp dv).ext x⟩
  · cases e

/-! ### what is only looked at -/
/-- data, or an own list -/
def Pk (K : Frag) (F H : Hp) (v : V) (d : PyData) : Prop := Dn K F v d ∨ ∃ a vs xs, v = .ref a ∧ d = .list xs ∧ H a = some (.lst vs) ∧ DnA K F vs xs
theorem Rel.pk {i : Nat} {o : Ov} (R : Rel X.K A G F H σ ρ) (e : getE ρ i = some o) : ∃ v, σ[i]? = some (some v) ∧ Pk X.K F H v o.d := by
  cases o with
  | imm d =>
    obtain ⟨v, h1, h2⟩ := R.imm i d e
    exact ⟨v, h1, .inl h2⟩
  | own xs =>
    obtain ⟨a, h1, _, _, vs, h2, d⟩ := R.own i xs e
    exact ⟨_, h1, .inr ⟨a, vs, xs, rfl, rfl, h2, d⟩⟩
theorem Pk.lst {K : Frag} {F H : Hp} {v : V} {xs : List PyData} (s : Same F H) (h : Pk K F H v (.list xs)) : ∃ a vs, v = .ref a ∧ H a = some (.lst vs) ∧ DnA K F vs xs := by
  rcases h with h | ⟨a, vs, ys, rfl, e, h1, h2⟩
  · cases h with
    | lst h1 h2 => exact ⟨_, _, rfl, s _ _ h1, h2⟩
  · cases e; exact ⟨_, _, rfl, h1, h2⟩
theorem Pk.imm {K : Frag} {F H : Hp} {v : V} {d : PyData} (h : Pk K F H v d) (n : ∀ xs, d ≠ .list xs) : Dn K F v d := by
  rcases h with h | ⟨a, vs, ys, rfl, e, h1, h2⟩
  · exact h
  · exact absurd e (n ys)
theorem Pk.tyOf {K : Frag} {F H : Hp} {v : V} {d : PyData} (s : Same F H) (h : Pk K F H v d) : TyX K H v (.type (kindD d)) := by
  rcases h with h | ⟨a, vs, ys, rfl, rfl, h1, h2⟩
  · cases h with
    | non => exact .base .non
    | bl b => exact .base (.bl b)
    | int i => exact .base (.int i)
    | str x => exact .base (.str x)
    | lst h1 h2 => exact .base (.lst (s _ _ h1))
    | tup h1 h2 =>
      rcases h1 with (h1 | ⟨o, h1⟩) | ⟨o, its, n, h1, hc, _⟩
      · exact .base (.tup (s _ _ h1))
      · exact .fTuple (s _ _ h1)
      · exact .kTuple h1 hc
    | dct h1 h2 e => exact .base (.dK (s _ _ h1))
  · exact .base (.lst h1)

/-! ### places -/
theorem ix_eq : @Ev.ixN = @L2.ixN := rfl
/-- an item, by values -/
theorem idx_ok {value slice : Expr} {v1 v2 : V} {u1 u2 : Value} {d1 d2 d : PyData} (I : Inv X pins σ H s) (R : Rel X.K A G F H σ ρ) (r1 : RelV v1 u1) (r2 : RelV v2 u2) (h1 : Pk X.K F H v1 d1) (h2 : Dn X.K F v2 d2) (e : idxD d1 d2 = some d)
    (hs : subscripted slice false u1 u2 = operate [u1, u2] (getItem u1 u2)) : wpAny (model X.prog X.w) X.A (subscriptTail value slice u1 u2) (EP X pins σ (Post X.K A G F σ ρ (.imm d))) X.xe s := by
  refine ix_seq value slice pins s σ H v1 v2 u1 u2 _ I r1 r2 ?_ hs
  unfold idxD at e
  split at e <;> first | (cases e; done) | skip
  · obtain ⟨a, vs, rfl, a1, b1⟩ := h1.lst R.sub
    cases h2
    obtain ⟨j, e1, e2⟩ := Option.bind_eq_some_iff.mp e
    obtain ⟨v, g1, g2⟩ := b1.get e2
    refine .inl ⟨_, _, _, v, rfl, rfl, SqL.of a1, ?_, R.post g2⟩
    unfold L2.atI
    rw [b1.len, ← ix_eq, e1]
    exact g1
  · cases h2
    cases h1.imm (fun xs q => by cases q) with
    | tup a1 b1 =>
      obtain ⟨j, e1, e2⟩ := Option.bind_eq_some_iff.mp e
      obtain ⟨v, g1, g2⟩ := b1.get e2
      refine .inr (.inl ⟨_, _, _, v, rfl, rfl, sqT_same R.sub a1, ?_, R.post g2⟩)
      unfold L2.atI
      rw [b1.len, ← ix_eq, e1]
      exact g1
  · cases h2
    cases h1.imm (fun xs q => by cases q) with
    | str _ =>
      split at e
      · rename_i hl
        obtain ⟨c, e1, e2⟩ := Option.map_eq_some_iff.mp e
        cases e2
        refine .inr (.inr ⟨_, _, c, rfl, rfl, by rw [← ll_eq]; exact hl, e1, R.post (.str _)⟩)
      · cases e
theorem se_idx {a b : Expr} {ia ib : IE} {pos : Pos} (ha : SE X A G cs a ia) (hb : SE X A G cs b ib) (hs : PlainIx b := by exact fun _ _ => rfl) : SE X A G cs (.Subscript a b pos) (.idx ia ib) := by
  refine ⟨fun pins s σ H F ρ o ρ' I R e => ?_⟩
  unfold ev at e
  obtain ⟨⟨o1, ρ1⟩, e1, e⟩ := Option.bind_eq_some_iff.mp e
  obtain ⟨⟨o2, ρ2⟩, e2, e⟩ := Option.bind_eq_some_iff.mp e
  obtain ⟨d, e3, e⟩ := Option.map_eq_some_iff.mp e
  cases e
  refine Subscript_ (ha.on I R e1 fun u1 s1 v1 H1 F1 I1 r1 x1 R1 d1 => hb.on I1 R1 e2 fun u2 s2 v2 H2 F2 I2 r2 x2 R2 d2 => ?_)
  exact thn (idx_ok I2 R2 r1 r2 (.inl (d1.mono x2.le)) d2 e3 (hs _ _)) fun u s' h => ext_ep (x1.trans x2) h
/-- the name of a slot, looked at -/
theorem look_var {i : Nat} {x : Str} {p : Pos} {v : V} {Q : Value → Shared → Prop} (I : Inv X pins σ H s) (h : σ[i]? = some (some v)) (k : ∀ u s', Inv X pins σ H s' → RelV v u → Q u s') (hN : X.N[i]? = some x) (hv : Vis X.env.scope x)
    (hd : (x == ("__debug__" : Str)) = false) (hcd : (x == ("__classdict__" : Str)) = false) : wpAny (model X.prog X.w) X.A (eval (.Name x p) X.env) Q X.xe s :=
  thn ((pe_var hN hv hd hcd).run pins s σ H (fun v' H' => v' = v ∧ H' = H) I ⟨v, h, rfl, rfl⟩) fun u s' ⟨v', H', I', r, e1, e2⟩ => by subst e1 e2; exact k u s' I' r
theorem se_idxv {i : Nat} {x : Str} {p : Pos} {b : Expr} {ib : IE} {pos : Pos} (hb : SE X A G cs b ib) (hs : PlainIx b := by exact fun _ _ => rfl) (hN : X.N[i]? = some x := by rfl)
    (hv : Vis X.env.scope x := by first | exact Or.inl rfl | exact Or.inr (Or.inl rfl) | exact Or.inr (Or.inr rfl)) (hd : (x == ("__debug__" : Str)) = false := by decide) (hcd : (x == ("__classdict__" : Str)) = false := by decide) :
    SE X A G cs (.Subscript (.Name x p) b pos) (.idxv i ib) := by
  refine ⟨fun pins s σ H F ρ o ρ' I R e => ?_⟩
  unfold ev at e
  obtain ⟨o0, e0, e⟩ := Option.bind_eq_some_iff.mp e
  obtain ⟨⟨o2, ρ2⟩, e2, e⟩ := Option.bind_eq_some_iff.mp e
  obtain ⟨o1, e1, e⟩ := Option.bind_eq_some_iff.mp e
  obtain ⟨d, e3, e⟩ := Option.map_eq_some_iff.mp e
  cases e
  obtain ⟨v, h0, _⟩ := R.pk e0
  refine Subscript_ (look_var I h0 (fun u1 s1 I1 r1 => hb.on I1 R e2 fun u2 s2 v2 H2 F2 I2 r2 x2 R2 d2 => ?_) hN hv hd hcd)
  obtain ⟨v', h1, pk⟩ := R2.pk e1
  rw [h0] at h1
  cases h1
  exact thn (idx_ok I2 R2 r1 r2 pk d2 e3 (hs _ _)) fun u s' h => ext_ep x2 h
end
end Ev
set_option Elab.async false
set_option linter.all false
set_option maxRecDepth 100000
/-! Ev5: slices, built-ins, isinstance, tests. -/
namespace Ev
open PySem PySem.Spec PyProof.Rows L2
section
variable {X : Cx} {A : List (Nat × Addr)} {G : Hp} {cs : CS} {pins : List (Addr × Obj)} {s : Shared} {σ : L2.St} {H F : Hp} {ρ ρ' : Env} {o : Ov}
/-! ### slices -/
def tEvO (K : Frag) (A : List (Nat × Addr)) (G : Hp) (cs : CS) (io : IO) : TO := fun σ H Q => ∃ F ρ k ρ', Rel K A G F H σ ρ ∧ evO cs io ρ = some (k, ρ') ∧ ∀ F' H', Ext G F F' → Rel K A G F' H' σ ρ' → Q k H'
abbrev SO (X : Cx) (A : List (Nat × Addr)) (G : Hp) (cs : CS) (e : Option Expr) (io : IO) : Prop := PO X e (tEvO X.K A G cs io)
theorem so_none : SO X A G cs none .non := ⟨fun pins s σ H Q I ⟨F, ρ, k, ρ', R, e, q⟩ => by
  cases e
  exact po_none.run pins s σ H Q I (q F H .refl R)⟩
theorem intOf_some {d : PyData} {i : Int} (h : intOf d = some i) : d = .int i := by
  cases d <;> first | (cases h; rfl) | cases h
theorem so_some {e : Expr} {ie : IE} (h : SE X A G cs e ie) : SO X A G cs (some e) (.som ie) := ⟨fun pins s σ H Q I ⟨F, ρ, k, ρ', R, he, q⟩ => by
  unfold evO at he
  obtain ⟨⟨o1, ρ1⟩, e1, he⟩ := Option.bind_eq_some_iff.mp he
  obtain ⟨i, e2, he⟩ := Option.map_eq_some_iff.mp he
  cases he
  refine (po_some h.pe).run pins s σ H Q I ⟨F, ρ, o1, _, R, e1, fun v H' _ p => ?_⟩
  obtain ⟨F', x, R', d⟩ := p.toD
  rw [intOf_some e2] at d
  cases d
  exact ⟨i, rfl, q F' H' x R'⟩⟩
theorem cut_V (xs : List V) (lo hi : Option Int) : cutV xs lo hi = Ev.cut xs lo hi := rfl
theorem DnA.cut {K : Frag} {F : Hp} {vs : List V} {ds : List PyData} (h : DnA K F vs ds) (lo hi : Option Int) : DnA K F (cutV vs lo hi) (Ev.cut ds lo hi) := by
  rw [cut_V]
  unfold Ev.cut
  rw [h.len]
  exact (h.drop _).take _
/-- a slice, by values -/
def rSlX2 (K : Frag) : V → Option Int → Option Int → Hp → VK → Prop := fun x lo hi H Q => rSlL K x lo hi H Q ∨ rSlA K x lo hi H Q
theorem sl_two : SlR X (rSlX2 X.K) := sl_list.or sl_tupA
theorem slc_ok {v : V} {d : PyData} {lo hi : Option Int} {Q : VK} (R : Rel X.K A G F H σ ρ) (h : Pk X.K F H v d) (e : slcD d lo hi = some o) (k : ∀ v H', Post X.K A G F σ ρ o v H' → Q v H') : rSlX2 X.K v lo hi H Q := by
  unfold slcD at e
  split at e <;> first | (cases e; done) | skip
  · cases e
    obtain ⟨a, vs, rfl, a1, b1⟩ := h.lst R.sub
    exact .inl ⟨a, vs, rfl, SqL.of a1, fun p hp => k _ _ (R.newL hp (b1.cut _ _))⟩
  · cases e
    cases h.imm (fun xs q => by cases q) with
    | tup a1 b1 =>
      refine .inr ⟨_, _, rfl, sqT_same R.sub a1, fun w => k _ _ ?_, fun w p hp => k _ _ (R.newT hp (b1.cut _ _))⟩
      have e1 : ∀ ds : List PyData, DnA X.K F _ ds → Ev.cut ds lo hi = ds := fun ds b => by
        unfold Ev.cut
        rw [← b.len, w.1, w.2, List.drop_zero, Nat.sub_zero, b.len, List.take_length]
      rw [e1 _ b1]
      exact R.post (.tup a1 b1)
theorem se_slc {a : Expr} {lo hi : Option Expr} {ia : IE} {il ih : IO} {pos p2 : Pos} (ha : SE X A G cs a ia) (hl : SO X A G cs lo il) (hh : SO X A G cs hi ih) : SE X A G cs (.Subscript a (.Slice lo hi none p2) pos) (.slc ia il ih) := by
  refine ⟨fun pins s σ H F ρ o ρ' I R e => ?_⟩
  unfold ev at e
  obtain ⟨⟨o1, ρ1⟩, e1, e⟩ := Option.bind_eq_some_iff.mp e
  obtain ⟨⟨k1, ρ2⟩, e2, e⟩ := Option.bind_eq_some_iff.mp e
  obtain ⟨⟨k2, ρ3⟩, e3, e⟩ := Option.bind_eq_some_iff.mp e
  obtain ⟨o2, e4, e⟩ := Option.map_eq_some_iff.mp e
  cases e
  refine (pe_slice sl_two ha.pe hl hh).run pins s σ H _ I ⟨F, ρ, o1, ρ1, R, e1, fun v H1 _ p => ?_⟩
  obtain ⟨F1, x1, R1, d1⟩ := p.toD
  refine ⟨F1, ρ1, k1, ρ2, R1, e2, fun F2 H2 x2 R2 => ⟨F2, ρ2, k2, _, R2, e3, fun F3 H3 x3 R3 => ?_⟩⟩
  exact slc_ok R3 (.inl (d1.mono (x2.trans x3).le)) e4 fun v H' q => q.ext (x1.trans (x2.trans x3))
theorem se_slcv {i : Nat} {x : Str} {p : Pos} {lo hi : Option Expr} {il ih : IO} {pos p2 : Pos} (hl : SO X A G cs lo il) (hh : SO X A G cs hi ih) (hN : X.N[i]? = some x := by rfl)
    (hv : Vis X.env.scope x := by first | exact Or.inl rfl | exact Or.inr (Or.inl rfl) | exact Or.inr (Or.inr rfl)) (hd : (x == ("__debug__" : Str)) = false := by decide) (hcd : (x == ("__classdict__" : Str)) = false := by decide) :
    SE X A G cs (.Subscript (.Name x p) (.Slice lo hi none p2) pos) (.slcv i il ih) := by
  refine ⟨fun pins s σ H F ρ o ρ' I R e => ?_⟩
  unfold ev at e
  obtain ⟨o0, e0, e⟩ := Option.bind_eq_some_iff.mp e
  obtain ⟨⟨k1, ρ2⟩, e2, e⟩ := Option.bind_eq_some_iff.mp e
  obtain ⟨⟨k2, ρ3⟩, e3, e⟩ := Option.bind_eq_some_iff.mp e
  obtain ⟨o1, e1, e⟩ := Option.bind_eq_some_iff.mp e
  obtain ⟨o2, e4, e⟩ := Option.map_eq_some_iff.mp e
  cases e
  obtain ⟨v, h0, _⟩ := R.pk e0
  refine (pe_slice sl_two (pe_var hN hv hd hcd) hl hh).run pins s σ H _ I ⟨v, h0, F, ρ, k1, ρ2, R, e2, fun F2 H2 x2 R2 => ⟨F2, ρ2, k2, _, R2, e3, fun F3 H3 x3 R3 => ?_⟩⟩
  obtain ⟨v', h1, pk⟩ := R3.pk e1
  rw [h0] at h1
  cases h1
  exact slc_ok R3 pk e4 fun v H' q => q.ext (x2.trans x3)
end
end Ev
set_option Elab.async false
set_option linter.all false
set_option maxRecDepth 100000
/-! Ev6: built-ins, isinstance, tests. -/
namespace Ev
open PySem PySem.Spec PyProof.Rows L2
inductive PkA (K : Frag) (F H : Hp) : List V → List PyData → Prop
  | nil : PkA K F H [] []
  | cons {v : V} {d : PyData} {vs : List V} {ds : List PyData} : Pk K F H v d → PkA K F H vs ds → PkA K F H (v :: vs) (d :: ds)
theorem DnA.pk {K : Frag} {F H : Hp} : ∀ {vs : List V} {ds : List PyData}, DnA K F vs ds → PkA K F H vs ds
  | _, _, .nil => .nil
  | _, _, .cons h q => .cons (.inl h) q.pk
section
variable {X : Cx} {A : List (Nat × Addr)} {G : Hp} {cs : CS} {pins : List (Addr × Obj)} {s : Shared} {σ : L2.St} {H F : Hp} {ρ ρ' : Env} {o : Ov}
/-! ### built-ins -/
def BltR (X : Cx) (f : Value) (b : Blt) : Prop :=
  ∀ (A : List (Nat × Addr)) (G : Hp) (pins : List (Addr × Obj)) (s : Shared) (σ : L2.St) (H F : Hp) (ρ : Env) (vs : List V) (us : List Value) (ds : List PyData) (o : Ov), Inv X pins σ H s → Rel X.K A G F H σ ρ → Vals vs us → PkA X.K F H vs ds → fnD b ds = some o →
    wpAny (model X.prog X.w) X.A (call f us) (EP X pins σ (Post X.K A G F σ ρ o)) X.xe s
theorem bl_len : BltR X (.builtin "len") .len := by
  intro A G pins s σ H F ρ vs us ds o I R r h e
  unfold fnD at e
  split at e <;> first | (cases e; done) | skip
  all_goals (rename_i q; cases q)
  · cases h with | cons h q =>
      cases q; cases e
      obtain ⟨a, ws, rfl, a1, b1⟩ := h.lst R.sub
      exact call_len_seq pins s σ H _ us _ I r ⟨a, ws, rfl, .inl (SqL.of a1), by rw [b1.len]; exact R.post (.int _)⟩
  · cases h with | cons h q =>
      cases q
      cases e
      cases h.imm (fun xs q => by cases q) with
      | tup a1 b1 => exact call_len_seq pins s σ H _ us _ I r ⟨_, _, rfl, .inr (sqT_same R.sub a1), by rw [b1.len]; exact R.post (.int _)⟩
  · cases h with | cons h q =>
      cases q
      split at e
      · rename_i hl
        cases e
        cases h.imm (fun xs q => by cases q)
        exact call_len pins s σ H _ us _ I r ⟨_, _, rfl, ⟨by rw [← ll_eq]; exact hl, rfl⟩, R.post (.int _)⟩
      · cases e
theorem bl_abs : BltR X (.builtin "abs") .abs := by
  intro A G pins s σ H F ρ vs us ds o I R r h e
  unfold fnD at e
  split at e <;> first | (cases e; done) | skip
  all_goals (rename_i q; cases q)
  cases h with | cons h q =>
    cases q; cases e
    cases h.imm (fun xs q => by cases q)
    exact call_abs pins s σ H _ us _ I r ⟨_, rfl, R.post (.int _)⟩
theorem bl_int : BltR X (.type "int") .int := by
  intro A G pins s σ H F ρ vs us ds o I R r h e
  unfold fnD at e
  split at e <;> first | (cases e; done) | skip
  all_goals (rename_i q; cases q)
  cases h with | cons h q =>
    cases q; cases e
    cases h.imm (fun xs q => by cases q)
    exact call_int1 pins s σ H _ us _ I r (.inl ⟨_, rfl, R.post (.int _)⟩)
theorem bl_max (hc : X.calm = true) : BltR X (.builtin "max") .max := by
  intro A G pins s σ H F ρ vs us ds o I R r h e
  unfold fnD at e
  split at e <;> first | (cases e; done) | skip
  all_goals (rename_i q; cases q)
  cases h with | cons h q => cases q with | cons h2 q =>
    cases q; cases e
    cases h.imm (fun xs q => by cases q)
    cases h2.imm (fun xs q => by cases q)
    exact call_max2 hc pins s σ H _ us _ I r ⟨_, _, rfl, R.post (.int _)⟩
theorem bl_min (hc : X.calm = true) : BltR X (.builtin "min") .min := by
  intro A G pins s σ H F ρ vs us ds o I R r h e
  unfold fnD at e
  split at e <;> first | (cases e; done) | skip
  all_goals (rename_i q; cases q)
  cases h with | cons h q => cases q with | cons h2 q =>
    cases q; cases e
    cases h.imm (fun xs q => by cases q)
    cases h2.imm (fun xs q => by cases q)
    exact call_min2 hc pins s σ H _ us _ I r ⟨_, _, rfl, R.post (.int _)⟩
theorem bools_V {K : Frag} {F : Hp} : ∀ {vs : List V} {ds : List PyData} {bs : List Bool}, DnA K F vs ds → bools ds = some bs → vs = bs.map V.bl
  | _, _, _, .nil, e => by cases e; rfl
  | _, _, _, .cons h q, e => by
    unfold bools at e
    split at e <;> first | (cases e; done) | skip
    · rename_i w; cases w
    · rename_i w
      cases w
      obtain ⟨cs, e1, rfl⟩ := Option.map_eq_some_iff.mp e
      cases h
      rw [bools_V q e1]
      rfl
theorem bl_all (hc : X.calm = true) : BltR X (.builtin "all") .all := by
  intro A G pins s σ H F ρ vs us ds o I R r h e
  unfold fnD at e
  split at e <;> first | (cases e; done) | skip
  all_goals (rename_i q; cases q)
  cases h with | cons h q =>
    cases q
    obtain ⟨bs, e1, rfl⟩ := Option.map_eq_some_iff.mp e
    obtain ⟨a, ws, rfl, a1, b1⟩ := h.lst R.sub
    have hb := bools_V b1 e1
    subst hb
    exact cr_all hc pins s σ H _ us _ I r ⟨a, bs, rfl, SqL.of a1, R.post (.bl _)⟩
theorem bl_any (hc : X.calm = true) : BltR X (.builtin "any") .any := by
  intro A G pins s σ H F ρ vs us ds o I R r h e
  unfold fnD at e
  split at e <;> first | (cases e; done) | skip
  all_goals (rename_i q; cases q)
  cases h with | cons h q =>
    cases q
    obtain ⟨bs, e1, rfl⟩ := Option.map_eq_some_iff.mp e
    obtain ⟨a, ws, rfl, a1, b1⟩ := h.lst R.sub
    have hb := bools_V b1 e1
    subst hb
    exact cr_any hc pins s σ H _ us _ I r ⟨a, bs, rfl, SqL.of a1, R.post (.bl _)⟩
theorem bl_list : BltR X (.type "list") .list := by
  intro A G pins s σ H F ρ vs us ds o I R r h e
  unfold fnD at e
  split at e <;> first | (cases e; done) | skip
  all_goals (rename_i q; cases q)
  · cases h with | cons h q =>
      cases q; cases e
      obtain ⟨a, ws, rfl, a1, b1⟩ := h.lst R.sub
      exact call_list_of pins s σ H _ us _ I r ⟨a, ws, rfl, .inl (SqL.of a1), fun p hp => R.newL hp b1⟩
  · cases h with | cons h q =>
      cases q; cases e
      cases h.imm (fun xs q => by cases q) with
      | tup a1 b1 => exact call_list_of pins s σ H _ us _ I r ⟨_, _, rfl, .inr (sqT_same R.sub a1), fun p hp => R.newL hp b1⟩
theorem bl_tuple : BltR X (.type "tuple") .tuple := by
  intro A G pins s σ H F ρ vs us ds o I R r h e
  unfold fnD at e
  split at e <;> first | (cases e; done) | skip
  all_goals (rename_i q; cases q)
  · cases h with | cons h q =>
      cases q; cases e
      obtain ⟨a, ws, rfl, a1, b1⟩ := h.lst R.sub
      exact call_tuple_of pins s σ H _ us _ I r ⟨a, ws, rfl, .inl ⟨SqL.of a1, fun p hp => R.newT hp b1⟩⟩
  · cases h with | cons h q =>
      cases q; cases e
      cases h.imm (fun xs q => by cases q) with
      | tup a1 b1 => exact call_tuple_of pins s σ H _ us _ I r ⟨_, _, rfl, .inr ⟨sqT_same R.sub a1, R.post (.tup a1 b1)⟩⟩
/-- f(e, ..), f a built-in function | a built-in type -/
theorem se_fnB {id : String} {b : Blt} {x : Str} {p pos : Pos} {e : Expr} {es : List Expr} {ies : IEs} (hb : BltR X (.builtin id) b) (hg : Gl X x) (hm : X.mg x = none) (hv : bootBuiltins x = some (.builtin id)) (ha : SA X A G cs (e :: es) ies) (hn : x ≠ "__name__" := by decide)
    (hdb : (x == ("__debug__" : Str)) = false := by decide) (he : starEach (e :: es) X.env = (false, eval e X.env) :: starEach es X.env := by rfl) (hpl : (backTo pos (starEach es X.env)).any (·.1) = false := by rfl) : SE X A G cs (.Call (.Name x p) (e :: es) [] pos) (.fn b ies) := by
  refine ⟨fun pins s σ H F ρ o ρ' I R h => ?_⟩
  unfold ev at h
  obtain ⟨⟨as, ρ1⟩, e1, h⟩ := Option.bind_eq_some_iff.mp h
  obtain ⟨ds, e2, h⟩ := Option.bind_eq_some_iff.mp h
  obtain ⟨o2, e3, h⟩ := Option.map_eq_some_iff.mp h
  cases h
  refine wpAny_Call_Name_kw (ld_blt I hg hm hv ?_ hn hdb)
  exact PyProof.Rows.callWith_builtin1 (thn (ha.run pos pins s σ H F ρ as _ I R e1) fun us s1 ⟨vs, H1, I1, r1, F1, x1, R1, av⟩ => thn (hb A G pins s1 σ H1 F1 _ vs us ds o I1 R1 r1 (av.asD e2).pk e3) fun u s' h => ext_ep x1 h) he hpl
theorem se_fnT {id : String} {b : Blt} {x : Str} {p pos : Pos} {e : Expr} {es : List Expr} {ies : IEs} (hb : BltR X (.type id) b) (hg : Gl X x) (hm : X.mg x = none) (hv : bootBuiltins x = some (.type id)) (ha : SA X A G cs (e :: es) ies) (hn : x ≠ "__name__" := by decide)
    (hdb : (x == ("__debug__" : Str)) = false := by decide) (he : starEach (e :: es) X.env = (false, eval e X.env) :: starEach es X.env := by rfl) (hpl : (backTo pos (starEach es X.env)).any (·.1) = false := by rfl) : SE X A G cs (.Call (.Name x p) (e :: es) [] pos) (.fn b ies) := by
  refine ⟨fun pins s σ H F ρ o ρ' I R h => ?_⟩
  unfold ev at h
  obtain ⟨⟨as, ρ1⟩, e1, h⟩ := Option.bind_eq_some_iff.mp h
  obtain ⟨ds, e2, h⟩ := Option.bind_eq_some_iff.mp h
  obtain ⟨o2, e3, h⟩ := Option.map_eq_some_iff.mp h
  cases h
  refine wpAny_Call_Name_kw (ld_blt I hg hm hv ?_ hn hdb)
  exact PyProof.Rows.callWith_type1 (thn (ha.run pos pins s σ H F ρ as _ I R e1) fun us s1 ⟨vs, H1, I1, r1, F1, x1, R1, av⟩ => thn (hb A G pins s1 σ H1 F1 _ vs us ds o I1 R1 r1 (av.asD e2).pk e3) fun u s' h => ext_ep x1 h) he hpl
/-- f(x), x looked at -/
theorem pa_look {i : Nat} {y : Str} {q pos : Pos} {v : V} (I : Inv X pins σ H s) (h : σ[i]? = some (some v)) (hN : X.N[i]? = some y) (hvi : Vis X.env.scope y) (hd : (y == ("__debug__" : Str)) = false) (hcd : (y == ("__classdict__" : Str)) = false)
    (he : starEach [Expr.Name y q] X.env = (false, eval (.Name y q) X.env) :: starEach [] X.env) : wpAny (model X.prog X.w) X.A (spliced (backTo pos (starEach [Expr.Name y q] X.env))) (fun us s' => ∃ u, us = [u] ∧ Inv X pins σ H s' ∧ RelV v u) X.xe s :=
  thn ((pa_cons (pe_var hN hvi hd hcd) pa_nil he).run pos pins s σ H (fun vs H' => vs = [v] ∧ H' = H) I ⟨v, h, rfl, rfl⟩) fun us s' ⟨vs, H', I', r, e1, e2⟩ => by
    subst e1 e2
    obtain ⟨u, rfl, ru⟩ := vals1 r
    exact ⟨u, rfl, I', ru⟩
theorem se_fnvB {id : String} {b : Blt} {x y : Str} {i : Nat} {p q pos : Pos} (hb : BltR X (.builtin id) b) (hg : Gl X x) (hm : X.mg x = none) (hv : bootBuiltins x = some (.builtin id)) (hN : X.N[i]? = some y := by rfl)
    (hvi : Vis X.env.scope y := by first | exact Or.inl rfl | exact Or.inr (Or.inl rfl) | exact Or.inr (Or.inr rfl)) (hd : (y == ("__debug__" : Str)) = false := by decide) (hcd : (y == ("__classdict__" : Str)) = false := by decide) (hn : x ≠ "__name__" := by decide)
    (hdb : (x == ("__debug__" : Str)) = false := by decide) (he : starEach [Expr.Name y q] X.env = (false, eval (.Name y q) X.env) :: starEach [] X.env := by rfl) (hpl : (backTo pos (starEach [] X.env)).any (·.1) = false := by rfl) : SE X A G cs (.Call (.Name x p) [.Name y q] [] pos) (.fnv b i) := by
  refine ⟨fun pins s σ H F ρ o ρ' I R h => ?_⟩
  unfold ev at h
  obtain ⟨o1, e1, h⟩ := Option.bind_eq_some_iff.mp h
  obtain ⟨o2, e3, h⟩ := Option.map_eq_some_iff.mp h
  cases h
  obtain ⟨v, h0, pk⟩ := R.pk e1
  refine wpAny_Call_Name_kw (ld_blt I hg hm hv ?_ hn hdb)
  exact PyProof.Rows.callWith_builtin1 (thn (pa_look I h0 hN hvi hd hcd he) fun us s1 ⟨u, eu, I1, ru⟩ => by subst eu; exact hb A G pins s1 σ H F _ [v] [u] _ o I1 R (.cons ru .nil) (.cons pk .nil) e3) he hpl
theorem se_fnvT {id : String} {b : Blt} {x y : Str} {i : Nat} {p q pos : Pos} (hb : BltR X (.type id) b) (hg : Gl X x) (hm : X.mg x = none) (hv : bootBuiltins x = some (.type id)) (hN : X.N[i]? = some y := by rfl)
    (hvi : Vis X.env.scope y := by first | exact Or.inl rfl | exact Or.inr (Or.inl rfl) | exact Or.inr (Or.inr rfl)) (hd : (y == ("__debug__" : Str)) = false := by decide) (hcd : (y == ("__classdict__" : Str)) = false := by decide) (hn : x ≠ "__name__" := by decide)
    (hdb : (x == ("__debug__" : Str)) = false := by decide) (he : starEach [Expr.Name y q] X.env = (false, eval (.Name y q) X.env) :: starEach [] X.env := by rfl) (hpl : (backTo pos (starEach [] X.env)).any (·.1) = false := by rfl) : SE X A G cs (.Call (.Name x p) [.Name y q] [] pos) (.fnv b i) := by
  refine ⟨fun pins s σ H F ρ o ρ' I R h => ?_⟩
  unfold ev at h
  obtain ⟨o1, e1, h⟩ := Option.bind_eq_some_iff.mp h
  obtain ⟨o2, e3, h⟩ := Option.map_eq_some_iff.mp h
  cases h
  obtain ⟨v, h0, pk⟩ := R.pk e1
  refine wpAny_Call_Name_kw (ld_blt I hg hm hv ?_ hn hdb)
  exact PyProof.Rows.callWith_type1 (thn (pa_look I h0 hN hvi hd hcd he) fun us s1 ⟨u, eu, I1, ru⟩ => by subst eu; exact hb A G pins s1 σ H F _ [v] [u] _ o I1 R (.cons ru .nil) (.cons pk .nil) e3) he hpl

/-! ### isinstance -/
def tyOk (t : String) : Bool := ["int", "bool", "str", "list", "tuple", "dict"].contains t
theorem kit_str : ∀ k ∈ ["NoneType", "bool", "int", "str", "list", "tuple", "dict"], ∀ t ∈ ["int", "bool", "str", "list", "tuple", "dict"], kitB k t = some (k == t || (t == "int" && k == "bool")) := by decide +kernel
theorem kind_mem (d : PyData) : kindD d ∈ ["NoneType", "bool", "int", "str", "list", "tuple", "dict"] := by
  cases d <;> simp [kindD]
theorem kit_data {K : Frag} (d : PyData) (t : String) (h : tyOk t = true) : PySem.W.kitOne K (.type (kindD d)) (.type t) = some (isi1 d t) := by
  have hm : t ∈ ["int", "bool", "str", "list", "tuple", "dict"] := by
    unfold tyOk at h
    exact List.contains_iff_mem.mp h
  exact kit_ty (kit_str _ (kind_mem d) _ hm)
theorem kit_all {K : Frag} (d : PyData) : ∀ (ts : List String), ts.all tyOk = true → PySem.W.kitAny K (.type (kindD d)) (ts.map Value.type) = some (isiD d ts)
  | [], _ => kitAny_nil
  | t :: ts, h => by
    rw [List.all_cons, Bool.and_eq_true] at h
    refine kitAny_cons (kit_data d t h.1) (fun e => ?_) fun e => ?_
    · unfold isiD
      rw [List.any_cons, e, Bool.false_or]
      exact kit_all d ts h.2
    · unfold isiD
      rw [List.any_cons, e, Bool.true_or]
end
end Ev
set_option Elab.async false
set_option linter.all false
set_option maxRecDepth 100000
/-! Ev7: isinstance, tests, a if t else b, pop. -/
namespace Ev
open PySem PySem.Spec PyProof.Rows L2
section
variable {X : Cx} {A : List (Nat × Addr)} {G : Hp} {cs : CS} {pins : List (Addr × Obj)} {s : Shared} {σ : L2.St} {H F : Hp} {ρ ρ' : Env} {o : Ov}
/-! ### isinstance -/
/-- the second argument: a built-in type's name, or a tuple of such -/
def tTys (ts : List String) : TA := fun _ H Q => Q (ts.map V.ty) H
theorem pa_ty0 : PA X [] (tTys []) := pa_nil
theorem pa_ty {t : String} {ts : List String} {p : Pos} {es : List Expr} {x : Str} (hg : Gl X x) (hm : X.mg x = none) (hv : bootBuiltins x = some (.type t)) (hr : PA X es (tTys ts)) (hn : x ≠ "__name__" := by decide) (hd : (x == ("__debug__" : Str)) = false := by decide)
    (hs : starEach (Expr.Name x p :: es) X.env = (false, eval (.Name x p) X.env) :: starEach es X.env := by rfl) : PA X (.Name x p :: es) (tTys (t :: ts)) :=
  pa_cons (te := tC (.ty t)) (pe_bltn hg hm hv rfl hn hd) hr hs
theorem clsV_all : ∀ ts : List String, Paired ClsV (ts.map V.ty) (ts.map Value.type)
  | [] => .nil
  | t :: ts => .cons (.ty t) (clsV_all ts)
theorem isi_post {v : V} {d : PyData} {ts : List String} {p : Addr} (R : Rel X.K A G F H σ ρ) (h : Pk X.K F H v d) (hts : ts.all tyOk = true) (hp : H p = none) :
    rIsiT X.K [v, .ref p] (upd H p (.tup (ts.map V.ty))) (Post X.K A G F σ ρ (.imm (.bool (isiD d ts)))) := by
  have R2 := R.grow (same_upd (o := .tup (ts.map V.ty)) hp)
  have h2 : Pk X.K F (upd H p (.tup (ts.map V.ty))) v d := by
    rcases h with h | ⟨a, vs, xs, e1, e2, h1, h2⟩
    · exact .inl h
    · exact .inr ⟨a, vs, xs, e1, e2, same_upd hp _ _ h1, h2⟩
  exact ⟨v, p, _, _, _, _, rfl, upd_same, clsV_all ts, h2.tyOf R2.sub, kit_all d ts hts, R2.post (.bl _)⟩
theorem se_isi {t : String} {a b : Expr} {ia : IE} {p pos : Pos} (ha : SE X A G cs a ia) (hb : PA X [b] (tTys [t])) (hm : X.mg "isinstance" = none) (hts : tyOk t = true := by rfl) (hg : Gl X "isinstance" := by rfl)
    (he : starEach [a, b] X.env = (false, eval a X.env) :: starEach [b] X.env := by rfl) (hpl : (backTo pos (starEach [b] X.env)).any (·.1) = false := by rfl) : SE X A G cs (.Call (.Name "isinstance" p) [a, b] [] pos) (.isi ia [t]) := by
  refine ⟨fun pins s σ H F ρ o ρ' I R h => ?_⟩
  unfold ev at h
  obtain ⟨⟨o1, ρ1⟩, e1, h⟩ := Option.map_eq_some_iff.mp h
  cases h
  refine (pe_callB call_isi hg hm PyProof.Rows.boot_isinstance (pa_cons ha.pe hb he) (by decide) (by decide) he hpl).run pins s σ H _ I ⟨F, ρ, o1, _, R, e1, fun v H1 _ pp => ?_⟩
  obtain ⟨F1, x1, R1, d1⟩ := pp.toD
  have k := kit_data (K := X.K) o1.d t hts
  refine ⟨v, .ty t, _, _, _, rfl, .ty t, Pk.tyOf R1.sub (.inl d1), k, ?_⟩
  have e : isiD o1.d [t] = isi1 o1.d t := by unfold isiD; simp
  have q := (R1.post (Dn.bl (isi1 o1.d t))).ext x1
  rw [← e] at q ⊢
  exact q
theorem se_isiv {t : String} {i : Nat} {y : Str} {q : Pos} {b : Expr} {p pos : Pos} (hb : PA X [b] (tTys [t])) (hm : X.mg "isinstance" = none) (hts : tyOk t = true := by rfl) (hg : Gl X "isinstance" := by rfl) (hN : X.N[i]? = some y := by rfl)
    (hvi : Vis X.env.scope y := by first | exact Or.inl rfl | exact Or.inr (Or.inl rfl) | exact Or.inr (Or.inr rfl)) (hd : (y == ("__debug__" : Str)) = false := by decide) (hcd : (y == ("__classdict__" : Str)) = false := by decide)
    (he : starEach [.Name y q, b] X.env = (false, eval (.Name y q) X.env) :: starEach [b] X.env := by rfl) (hpl : (backTo pos (starEach [b] X.env)).any (·.1) = false := by rfl) : SE X A G cs (.Call (.Name "isinstance" p) [.Name y q, b] [] pos) (.isiv i [t]) := by
  refine ⟨fun pins s σ H F ρ o ρ' I R h => ?_⟩
  unfold ev at h
  obtain ⟨o1, e1, h⟩ := Option.map_eq_some_iff.mp h
  cases h
  obtain ⟨v, h0, pk⟩ := R.pk e1
  refine (pe_callB call_isi hg hm PyProof.Rows.boot_isinstance (pa_cons (pe_var hN hvi hd hcd) hb he) (by decide) (by decide) he hpl).run pins s σ H _ I ⟨v, h0, ?_⟩
  refine ⟨v, .ty t, _, _, _, rfl, .ty t, pk.tyOf R.sub, kit_data (K := X.K) o1.d t hts, ?_⟩
  have e : isiD o1.d [t] = isi1 o1.d t := by unfold isiD; simp
  have q := R.post (Dn.bl (isi1 o1.d t))
  rw [← e] at q ⊢
  exact q
theorem tys_len {ts : List String} (h : ts.length ≤ 8) : (ts.map V.ty).length ≤ sizeLine := by
  rw [List.length_map, sizeLine_eq]; omega
theorem se_isiT {ts : List String} {a : Expr} {es : List Expr} {k : Nat} {tp : Pos} {ia : IE} {p pos : Pos} (ha : SE X A G cs a ia) (hb : PA X es (tTys ts)) (hm : X.mg "isinstance" = none) (hts : ts.all tyOk = true := by rfl) (hl : ts.length ≤ 8 := by decide) (hg : Gl X "isinstance" := by rfl)
    (he : starEach [a, .Tuple es k tp] X.env = (false, eval a X.env) :: starEach [.Tuple es k tp] X.env := by rfl) (he2 : starEach [.Tuple es k tp] X.env = (false, eval (.Tuple es k tp) X.env) :: starEach [] X.env := by rfl) (hpl : (backTo pos (starEach [.Tuple es k tp] X.env)).any (·.1) = false := by rfl) :
    SE X A G cs (.Call (.Name "isinstance" p) [a, .Tuple es k tp] [] pos) (.isi ia ts) := by
  refine ⟨fun pins s σ H F ρ o ρ' I R h => ?_⟩
  unfold ev at h
  obtain ⟨⟨o1, ρ1⟩, e1, h⟩ := Option.map_eq_some_iff.mp h
  cases h
  refine (pe_callB call_isiT hg hm PyProof.Rows.boot_isinstance (pa_cons ha.pe (pa_cons (pe_tup hb) pa_nil he2) he) (by decide) (by decide) he hpl).run pins s σ H _ I ⟨F, ρ, o1, _, R, e1, fun v H1 _ pp => ⟨tys_len hl, fun q hq => ?_⟩⟩
  obtain ⟨F1, x1, R1, d1⟩ := pp.toD
  obtain ⟨z1, z2, z3, z4, z5, z6, z7, z8, z9, z10, z11, z12⟩ := isi_post R1 (.inl d1) hts hq
  exact ⟨z1, z2, z3, z4, z5, z6, z7, z8, z9, z10, z11, z12.ext x1⟩
theorem se_isivT {ts : List String} {i : Nat} {y : Str} {yp : Pos} {es : List Expr} {k : Nat} {tp : Pos} {p pos : Pos} (hb : PA X es (tTys ts)) (hm : X.mg "isinstance" = none) (hts : ts.all tyOk = true := by rfl) (hl : ts.length ≤ 8 := by decide) (hg : Gl X "isinstance" := by rfl) (hN : X.N[i]? = some y := by rfl)
    (hvi : Vis X.env.scope y := by first | exact Or.inl rfl | exact Or.inr (Or.inl rfl) | exact Or.inr (Or.inr rfl)) (hd : (y == ("__debug__" : Str)) = false := by decide) (hcd : (y == ("__classdict__" : Str)) = false := by decide)
    (he : starEach [.Name y yp, .Tuple es k tp] X.env = (false, eval (.Name y yp) X.env) :: starEach [.Tuple es k tp] X.env := by rfl) (he2 : starEach [.Tuple es k tp] X.env = (false, eval (.Tuple es k tp) X.env) :: starEach [] X.env := by rfl)
    (hpl : (backTo pos (starEach [.Tuple es k tp] X.env)).any (·.1) = false := by rfl) : SE X A G cs (.Call (.Name "isinstance" p) [.Name y yp, .Tuple es k tp] [] pos) (.isiv i ts) := by
  refine ⟨fun pins s σ H F ρ o ρ' I R h => ?_⟩
  unfold ev at h
  obtain ⟨o1, e1, h⟩ := Option.map_eq_some_iff.mp h
  cases h
  obtain ⟨v, h0, pk⟩ := R.pk e1
  exact (pe_callB call_isiT hg hm PyProof.Rows.boot_isinstance (pa_cons (pe_var hN hvi hd hcd) (pa_cons (pe_tup hb) pa_nil he2) he) (by decide) (by decide) he hpl).run pins s σ H _ I ⟨v, h0, tys_len hl, fun q hq => isi_post R pk hts hq⟩

/-! ### comparisons -/
def CmpR (X : Cx) (op : CmpOp) (c : COp) : Prop :=
  ∀ (A : List (Nat × Addr)) (G : Hp) (pins : List (Addr × Obj)) (s : Shared) (σ : L2.St) (H F : Hp) (ρ : Env) (v1 v2 : V) (u1 u2 : Value) (d1 d2 : PyData) (b : Bool), Inv X pins σ H s → Rel X.K A G F H σ ρ → RelV v1 u1 → RelV v2 u2 → Dn X.K F v1 d1 → Dn X.K F v2 d2 →
    cmpD c d1 d2 = some b → wpAny (model X.prog X.w) X.A (compareOp op u1 u2) (EP X pins σ fun v H' => v = .bl b ∧ H' = H) X.xe s
theorem eqD_some {a b : PyData} {k : Bool} (h : eqD a b = some k) : SeqAt.shaped a = true ∧ SeqAt.shaped b = true ∧ k = PyData.eqv a b := by
  unfold eqD at h
  split at h
  · rename_i z
    cases h
    rw [Bool.and_eq_true] at z
    exact ⟨z.1, z.2, rfl⟩
  · cases h
theorem cm_eq (hu : X.A.units + 64 < cLine) : CmpR X .Eq .eq := by
  intro A G pins s σ H F ρ v1 v2 u1 u2 d1 d2 b I R r1 r2 h1 h2 e
  obtain ⟨z1, z2, rfl⟩ := eqD_some (show eqD d1 d2 = some b from by unfold cmpD at e; exact e)
  exact op_eqD hu pins s σ H _ _ u1 u2 _ I r1 r2 ⟨d1, d2, dp_mono R.sub (h1.dp (SeqAt.canLay_of_shaped z1)), dp_mono R.sub (h2.dp (SeqAt.canLay_of_shaped z2)), z1, z2, rfl, rfl⟩
theorem cm_ne (hu : X.A.units + 64 < cLine) : CmpR X .NotEq .ne := by
  intro A G pins s σ H F ρ v1 v2 u1 u2 d1 d2 b I R r1 r2 h1 h2 e
  obtain ⟨k, e1, rfl⟩ := Option.map_eq_some_iff.mp (show (eqD d1 d2).map (!·) = some b from by unfold cmpD at e; exact e)
  obtain ⟨z1, z2, rfl⟩ := eqD_some e1
  exact op_neD hu pins s σ H _ _ u1 u2 _ I r1 r2 ⟨d1, d2, dp_mono R.sub (h1.dp (SeqAt.canLay_of_shaped z1)), dp_mono R.sub (h2.dp (SeqAt.canLay_of_shaped z2)), z1, z2, rfl, rfl⟩
theorem cm_lt : CmpR X .Lt .lt := by
  intro A G pins s σ H F ρ v1 v2 u1 u2 d1 d2 b I R r1 r2 h1 h2 e
  unfold cmpD at e
  split at e <;> first | (cases e; done) | skip
  all_goals (rename_i q; cases q)
  cases e; cases h1; cases h2
  exact op_lt pins s σ H _ _ u1 u2 _ I r1 r2 ⟨_, _, rfl, rfl, rfl, rfl⟩
theorem cm_le : CmpR X .LtE .le := by
  intro A G pins s σ H F ρ v1 v2 u1 u2 d1 d2 b I R r1 r2 h1 h2 e
  unfold cmpD at e
  split at e <;> first | (cases e; done) | skip
  all_goals (rename_i q; cases q)
  cases e; cases h1; cases h2
  exact op_le pins s σ H _ _ u1 u2 _ I r1 r2 ⟨_, _, rfl, rfl, rfl, rfl⟩
theorem cm_gt : CmpR X .Gt .gt := by
  intro A G pins s σ H F ρ v1 v2 u1 u2 d1 d2 b I R r1 r2 h1 h2 e
  unfold cmpD at e
  split at e <;> first | (cases e; done) | skip
  all_goals (rename_i q; cases q)
  cases e; cases h1; cases h2
  exact op_gt pins s σ H _ _ u1 u2 _ I r1 r2 ⟨_, _, rfl, rfl, rfl, rfl⟩
theorem cm_ge : CmpR X .GtE .ge := by
  intro A G pins s σ H F ρ v1 v2 u1 u2 d1 d2 b I R r1 r2 h1 h2 e
  unfold cmpD at e
  split at e <;> first | (cases e; done) | skip
  all_goals (rename_i q; cases q)
  cases e; cases h1; cases h2
  exact op_ge pins s σ H _ _ u1 u2 _ I r1 r2 ⟨_, _, rfl, rfl, rfl, rfl⟩
theorem isNone_V {K : Frag} {F : Hp} {v : V} {d : PyData} (h : Dn K F v d) : decide (v = .non) = isNone d := by
  cases h <;> simp [isNone]
theorem cm_is : CmpR X .Is .isN := by
  intro A G pins s σ H F ρ v1 v2 u1 u2 d1 d2 b I R r1 r2 h1 h2 e
  unfold cmpD at e
  split at e <;> first | (cases e; done) | skip
  all_goals (rename_i q; cases q)
  cases e; cases h2
  exact op_isN pins s σ H _ _ u1 u2 _ I r1 r2 ⟨rfl, by rw [isNone_V h1], rfl⟩
theorem cm_isn : CmpR X .IsNot .isnN := by
  intro A G pins s σ H F ρ v1 v2 u1 u2 d1 d2 b I R r1 r2 h1 h2 e
  unfold cmpD at e
  split at e <;> first | (cases e; done) | skip
  all_goals (rename_i q; cases q)
  cases e; cases h2
  exact op_notN pins s σ H _ _ u1 u2 _ I r1 r2 ⟨rfl, by rw [isNone_V h1], rfl⟩
theorem sb_cmp {op : CmpOp} {c : COp} {a b : Expr} {ia ib : IE} {pos : Pos} (hc : CmpR X op c) (ha : SE X A G cs a ia) (hb : SE X A G cs b ib) (hm : behindInMarks op b = false) : SB X A G cs (.Compare a [op] [b] pos) (.cmp c ia ib) := by
  refine ⟨fun pins s σ H F ρ k ρ' I R e => ?_⟩
  unfold evT at e
  obtain ⟨⟨o1, ρ1⟩, e1, e⟩ := Option.bind_eq_some_iff.mp e
  obtain ⟨⟨o2, ρ2⟩, e2, e⟩ := Option.bind_eq_some_iff.mp e
  obtain ⟨k', e3, e⟩ := Option.map_eq_some_iff.mp e
  cases e
  refine wpAny_Compare1 (ha.on I R e1 fun u1 s1 v1 H1 F1 I1 r1 x1 R1 d1 => hb.on I1 R1 e2 fun u2 s2 v2 H2 F2 I2 r2 x2 R2 d2 => ?_) hm
  exact thn (hc A G pins s2 σ H2 F2 _ v1 v2 u1 u2 _ _ k I2 R2 r1 r2 (d1.mono x2.le) d2 e3) fun u s' ⟨v, H', I', r, q1, q2⟩ => by
    subst q1 q2
    exact ⟨_, _, I', r, F2, x1.trans x2, R2, .bl k⟩
theorem st_cmp {op : CmpOp} {c : COp} {a b : Expr} {ia ib : IE} {pos : Pos} (hc : CmpR X op c) (ha : SE X A G cs a ia) (hb : SE X A G cs b ib) (hm : behindInMarks op b = false) : ST X A G cs (.Compare a [op] [b] pos) (.cmp c ia ib) := by
  refine ⟨fun pins s σ H F ρ k ρ' I R e => ?_⟩
  unfold evT at e
  obtain ⟨⟨o1, ρ1⟩, e1, e⟩ := Option.bind_eq_some_iff.mp e
  obtain ⟨⟨o2, ρ2⟩, e2, e⟩ := Option.bind_eq_some_iff.mp e
  obtain ⟨k', e3, e⟩ := Option.map_eq_some_iff.mp e
  cases e
  refine wpAny_isTrue_Compare1 (ha.on I R e1 fun u1 s1 v1 H1 F1 I1 r1 x1 R1 d1 => hb.on I1 R1 e2 fun u2 s2 v2 H2 F2 I2 r2 x2 R2 d2 => ?_) hm
  exact thn (hc A G pins s2 σ H2 F2 _ v1 v2 u1 u2 _ _ k I2 R2 r1 r2 (d1.mono x2.le) d2 e3) fun u s' ⟨v, H', I', r, q1, q2⟩ => by
    subst q1 q2
    cases r
    exact wpAny_truthy_bool ⟨_, I', rfl, F2, x1.trans x2, R2⟩
/-- a < b < c on ints -/
def intC : COp → Option (Int → Int → Bool)
  | .lt => some fun i j => decide (i < j)
  | .le => some fun i j => decide (i ≤ j)
  | .gt => some fun i j => decide (j < i)
  | .ge => some fun i j => decide (j ≤ i)
  | _ => none
theorem intC_ok {c : COp} {f : Int → Int → Bool} (h : intC c = some f) {d1 d2 : PyData} {k : Bool} (e : cmpD c d1 d2 = some k) : ∃ i j, d1 = .int i ∧ d2 = .int j ∧ k = f i j := by
  cases c <;> first | (cases h; done) | skip
  all_goals
    cases h
    unfold cmpD at e
    split at e <;> first | (cases e; done) | skip
    all_goals (rename_i q; cases q)
    cases e
    exact ⟨_, _, rfl, rfl, rfl⟩
theorem chain_read {ia ib ic : IE} {c1 c2 : COp} {f1 f2 : Int → Int → Bool} {k : Bool} {Q : VK} (h1 : intC c1 = some f1) (h2 : intC c2 = some f2) (R : Rel X.K A G F H σ ρ) (e : evT cs (.chain c1 c2 ia ib ic) ρ = some (k, ρ'))
    (q : ∀ F' H', Ext G F F' → Rel X.K A G F' H' σ ρ' → Q (.bl k) H') : tChain (rI0 fun i j => .bl (f1 i j)) (rI0 fun i j => .bl (f2 i j)) (tEv X.K A G cs ia) (tEv X.K A G cs ib) (tEv X.K A G cs ic) σ H Q := by
  unfold evT at e
  obtain ⟨⟨o1, ρ1⟩, e1, e⟩ := Option.bind_eq_some_iff.mp e
  obtain ⟨⟨o2, ρ2⟩, e2, e⟩ := Option.bind_eq_some_iff.mp e
  obtain ⟨k1, e3, e⟩ := Option.bind_eq_some_iff.mp e
  obtain ⟨i, j, z1, z2, rfl⟩ := intC_ok h1 e3
  refine ⟨F, ρ, o1, ρ1, R, e1, fun v1 H1 _ p1 => ?_⟩
  obtain ⟨F1, x1, R1, d1⟩ := p1.toD
  refine ⟨F1, ρ1, o2, ρ2, R1, e2, fun v2 H2 _ p2 => ?_⟩
  obtain ⟨F2, x2, R2, d2⟩ := p2.toD
  rw [z1] at d1
  rw [z2] at d2
  cases d1
  cases d2
  refine ⟨i, j, rfl, rfl, _, rfl, ?_⟩
  cases hk : f1 i j with
  | false =>
    rw [hk] at e
    cases e
    rw [if_neg Bool.false_ne_true]
    exact q F2 H2 (x1.trans x2) R2
  | true =>
    rw [hk] at e
    obtain ⟨⟨o3, ρ3⟩, e4, e⟩ := Option.bind_eq_some_iff.mp e
    obtain ⟨k2, e5, e⟩ := Option.map_eq_some_iff.mp e
    cases e
    rw [z2] at e5
    obtain ⟨i2, j2, z3, z4, rfl⟩ := intC_ok h2 e5
    cases z3
    rw [if_pos rfl]
    refine ⟨F2, ρ2, o3, _, R2, e4, fun v3 H3 _ p3 => ?_⟩
    obtain ⟨F3, x3, R3, d3⟩ := p3.toD
    rw [z4] at d3
    cases d3
    exact ⟨_, _, rfl, rfl, q F3 H3 (x1.trans (x2.trans x3)) R3⟩
theorem st_chain {op1 op2 : CmpOp} {c1 c2 : COp} {f1 f2 : Int → Int → Bool} {a b c : Expr} {ia ib ic : IE} {pos : Pos} (ho1 : OpR X (compareOp op1) (rI0 fun i j => .bl (f1 i j))) (ho2 : OpR X (compareOp op2) (rI0 fun i j => .bl (f2 i j))) (h1 : intC c1 = some f1) (h2 : intC c2 = some f2)
    (ha : SE X A G cs a ia) (hb : SE X A G cs b ib) (hc : SE X A G cs c ic) (hm : lastMarks [op1, op2] [b, c] = false := by with_unfolding_all rfl) : ST X A G cs (.Compare a [op1, op2] [b, c] pos) (.chain c1 c2 ia ib ic) :=
  ⟨fun pins s σ H F ρ k ρ' I R e => (pt_chain ho1 ho2 ha.pe hb.pe hc.pe hm).run pins s σ H _ I (chain_read h1 h2 R e fun F' H' x R' => ⟨k, rfl, rfl, F', x, R'⟩)⟩
theorem sb_chain {op1 op2 : CmpOp} {c1 c2 : COp} {f1 f2 : Int → Int → Bool} {a b c : Expr} {ia ib ic : IE} {pos : Pos} (ho1 : OpR X (compareOp op1) (rI0 fun i j => .bl (f1 i j))) (ho2 : OpR X (compareOp op2) (rI0 fun i j => .bl (f2 i j))) (h1 : intC c1 = some f1) (h2 : intC c2 = some f2)
    (ha : SE X A G cs a ia) (hb : SE X A G cs b ib) (hc : SE X A G cs c ic) (hm : lastMarks [op1, op2] [b, c] = false := by with_unfolding_all rfl) : SB X A G cs (.Compare a [op1, op2] [b, c] pos) (.chain c1 c2 ia ib ic) :=
  ⟨fun pins s σ H F ρ k ρ' I R e => (pe_chain ho1 ho2 ha.pe hb.pe hc.pe hm).run pins s σ H _ I (chain_read h1 h2 R e fun F' H' x R' => ⟨F', x, R', .bl k⟩)⟩

/-! ### and, or, not -/
theorem SW.st {e : Expr} {it : IT} (h : SW X A G cs e it) : ST X A G cs e it := ⟨fun pins s σ H F ρ b ρ' I R he => h.run _ pins s σ H F ρ b ρ' I R he⟩
theorem sw_and1 {a : Expr} {ia : IT} {pos : Pos} (ha : ST X A G cs a ia) : SW X A G cs (.BoolOp .And [a] pos) ia := by
  refine ⟨fun wh pins s σ H F ρ b ρ' I R e => ?_⟩
  refine isTrue_and (thn (ha.run pins s σ H F ρ b ρ' I R e) fun c s1 q => ?_)
  cases c with
  | true => exact isTrue_and_nil q
  | false => exact q
theorem sw_or1 {a : Expr} {ia : IT} {pos : Pos} (ha : ST X A G cs a ia) : SW X A G cs (.BoolOp .Or [a] pos) ia := by
  refine ⟨fun wh pins s σ H F ρ b ρ' I R e => ?_⟩
  refine isTrue_or (thn (ha.run pins s σ H F ρ b ρ' I R e) fun c s1 q => ?_)
  cases c with
  | false => exact isTrue_or_nil q
  | true => exact q
theorem sw_and {a b : Expr} {rest : List Expr} {ia ib : IT} {pos : Pos} (ha : ST X A G cs a ia) (hb : SW X A G cs (.BoolOp .And (b :: rest) pos) ib) : SW X A G cs (.BoolOp .And (a :: b :: rest) pos) (.and ia ib) := by
  refine ⟨fun wh pins s σ H F ρ k ρ' I R e => ?_⟩
  unfold evT at e
  obtain ⟨⟨k1, ρ1⟩, e1, e⟩ := Option.bind_eq_some_iff.mp e
  refine isTrue_and (thn (ha.run pins s σ H F ρ k1 ρ1 I R e1) fun c s1 ⟨H1, I1, q, F1, x1, R1⟩ => ?_)
  subst q
  cases c with
  | true => exact thn (hb.run wh pins s1 σ H1 F1 ρ1 k ρ' I1 R1 e) fun u s' h => ext_tp x1 h
  | false => cases e; exact ⟨H1, I1, rfl, F1, x1, R1⟩
theorem sw_or {a b : Expr} {rest : List Expr} {ia ib : IT} {pos : Pos} (ha : ST X A G cs a ia) (hb : SW X A G cs (.BoolOp .Or (b :: rest) pos) ib) : SW X A G cs (.BoolOp .Or (a :: b :: rest) pos) (.or ia ib) := by
  refine ⟨fun wh pins s σ H F ρ k ρ' I R e => ?_⟩
  unfold evT at e
  obtain ⟨⟨k1, ρ1⟩, e1, e⟩ := Option.bind_eq_some_iff.mp e
  refine isTrue_or (thn (ha.run pins s σ H F ρ k1 ρ1 I R e1) fun c s1 ⟨H1, I1, q, F1, x1, R1⟩ => ?_)
  subst q
  cases c with
  | false => exact thn (hb.run wh pins s1 σ H1 F1 ρ1 k ρ' I1 R1 e) fun u s' h => ext_tp x1 h
  | true => cases e; exact ⟨H1, I1, rfl, F1, x1, R1⟩
theorem st_not {a : Expr} {ia : IT} {pos : Pos} (ha : ST X A G cs a ia) : ST X A G cs (.UnaryOp .Not a pos) (.not ia) := by
  refine ⟨fun pins s σ H F ρ k ρ' I R e => ?_⟩
  unfold evT at e
  obtain ⟨⟨k1, ρ1⟩, e1, e⟩ := Option.map_eq_some_iff.mp e
  cases e
  exact isTrue_not (thn (ha.run pins s σ H F ρ k1 _ I R e1) fun c s1 ⟨H1, I1, q, F1, x1, R1⟩ => ⟨H1, I1, by subst q; rfl, F1, x1, R1⟩)
theorem nz (n : Nat) : (n != 0) = ((n : Int) != 0) := by
  by_cases h : n = 0
  · subst h; rfl
  · have h2 : (n : Int) ≠ 0 := by omega
    rw [bne_iff_ne.mpr h, bne_iff_ne.mpr h2]
theorem tru_V {v : V} {d : PyData} {k : Bool} (s : Same F H) (h : Pk X.K F H v d) (e : truD d = some k) : TruV X.K v H k := by
  have hs : sizeLine = 16777216 := sizeLine_eq
  unfold truD at e
  split at e <;> first | (cases e; done) | skip
  · cases e; cases h.imm (fun xs q => by cases q); exact rfl
  · cases e; cases h.imm (fun xs q => by cases q); exact rfl
  · cases e; cases h.imm (fun xs q => by cases q); exact rfl
  · cases h.imm (fun xs q => by cases q)
    split at e
    · rename_i hl
      cases e
      refine ⟨by rw [← ll_eq]; exact hl, ?_⟩
      exact nz _
    · cases e
  · cases e
    obtain ⟨a, vs, rfl, a1, b1⟩ := h.lst s
    refine .inl ⟨vs, SqL.of a1, ?_⟩
    cases b1 <;> rfl
  · cases e
    cases h.imm (fun xs q => by cases q) with
    | tup a1 b1 =>
      refine .inr (.inl ⟨_, sqT_same s a1, ?_⟩)
      cases b1 <;> rfl
theorem st_val {a : Expr} {ia : IE} (ha : SE X A G cs a ia) (he : ∀ whole, isTrue a X.env whole = (do let v ← whole; standAt a.pos; holding [v] (truthy v)) := by intro _; rfl) : ST X A G cs a (.val ia) := by
  refine ⟨fun pins s σ H F ρ k ρ' I R e => ?_⟩
  unfold evT at e
  obtain ⟨⟨o1, ρ1⟩, e1, e⟩ := Option.bind_eq_some_iff.mp e
  obtain ⟨k1, e2, e⟩ := Option.map_eq_some_iff.mp e
  cases e
  refine isTrue_plain (ha.on I R e1 fun u1 s1 v1 H1 F1 I1 r1 x1 R1 d1 => ?_) (he _)
  exact tru_ok pins s1 σ H1 v1 u1 _ I1 r1 ⟨k, tru_V R1.sub (.inl d1) e2, rfl, F1, x1, R1⟩
theorem st_valv {i : Nat} {y : Str} {p : Pos} (hN : X.N[i]? = some y := by rfl) (hvi : Vis X.env.scope y := by first | exact Or.inl rfl | exact Or.inr (Or.inl rfl) | exact Or.inr (Or.inr rfl)) (hd : (y == ("__debug__" : Str)) = false := by decide)
    (hcd : (y == ("__classdict__" : Str)) = false := by decide) (he : ∀ whole, isTrue (.Name y p) X.env whole = (do let v ← whole; standAt (Expr.Name y p).pos; holding [v] (truthy v)) := by intro _; rfl) : ST X A G cs (.Name y p) (.valv i) := by
  refine ⟨fun pins s σ H F ρ k ρ' I R e => ?_⟩
  unfold evT at e
  obtain ⟨o1, e1, e⟩ := Option.bind_eq_some_iff.mp e
  obtain ⟨k1, e2, e⟩ := Option.map_eq_some_iff.mp e
  cases e
  obtain ⟨v, h0, pk⟩ := R.pk e1
  refine isTrue_plain (look_var I h0 (fun u1 s1 I1 r1 => ?_) hN hvi hd hcd) (he _)
  exact tru_ok pins s1 σ H v u1 _ I1 r1 ⟨k, tru_V R.sub pk e2, rfl, F, .refl, R⟩
/-- a value that is a bool, as a test -/
theorem boolOf_some {d : PyData} {b : Bool} (h : boolOf d = some b) : d = .bool b := by
  cases d <;> first | (cases h; rfl) | cases h
theorem sb_bv {a : Expr} {ia : IE} (ha : SE X A G cs a ia) : SB X A G cs a (.bv ia) := by
  refine ⟨fun pins s σ H F ρ k ρ' I R e => ?_⟩
  unfold evT at e
  obtain ⟨⟨o1, ρ1⟩, e1, e⟩ := Option.bind_eq_some_iff.mp e
  obtain ⟨k1, e2, e⟩ := Option.map_eq_some_iff.mp e
  cases e
  rw [← boolOf_some e2]
  exact ha.d I R e1
theorem st_bv {a : Expr} {ia : IE} (ha : SE X A G cs a ia) (he : ∀ whole, isTrue a X.env whole = (do let v ← whole; standAt a.pos; holding [v] (truthy v)) := by intro _; rfl) : ST X A G cs a (.bv ia) := by
  refine ⟨fun pins s σ H F ρ k ρ' I R e => ?_⟩
  unfold evT at e
  obtain ⟨⟨o1, ρ1⟩, e1, e⟩ := Option.bind_eq_some_iff.mp e
  obtain ⟨k1, e2, e⟩ := Option.map_eq_some_iff.mp e
  cases e
  refine isTrue_plain (ha.on I R e1 fun u1 s1 v1 H1 F1 I1 r1 x1 R1 d1 => ?_) (he _)
  rw [boolOf_some e2] at d1
  cases d1
  cases r1
  exact wpAny_truthy_bool ⟨H1, I1, rfl, F1, x1, R1⟩
/-- .. as values -/
theorem sb_one {op} {a : Expr} {ia : IT} {pos : Pos} (ha : SB X A G cs a ia) : SB X A G cs (.BoolOp op [a] pos) ia := ⟨fun pins s σ H F ρ b ρ' I R e => BoolOp_one (ha.run pins s σ H F ρ b ρ' I R e)⟩
theorem sb_and {a b : Expr} {rest : List Expr} {ia ib : IT} {pos : Pos} (ha : SB X A G cs a ia) (hb : SB X A G cs (.BoolOp .And (b :: rest) pos) ib) : SB X A G cs (.BoolOp .And (a :: b :: rest) pos) (.and ia ib) := by
  refine ⟨fun pins s σ H F ρ k ρ' I R e => ?_⟩
  unfold evT at e
  obtain ⟨⟨k1, ρ1⟩, e1, e⟩ := Option.bind_eq_some_iff.mp e
  refine BoolOp_and (thn (ha.run pins s σ H F ρ k1 ρ1 I R e1) fun v s1 ⟨x, H1, I1, r1, F1, x1, R1, d1⟩ => ?_)
  cases d1
  cases r1
  refine wpAny_truthy_bool ?_
  cases k1 with
  | true => exact thn (hb.run pins s1 σ H1 F1 ρ1 k ρ' I1 R1 e) fun u s' h => ext_epd x1 h
  | false => cases e; exact ⟨.bl false, H1, I1, rfl, F1, x1, R1, .bl _⟩
theorem sb_or {a b : Expr} {rest : List Expr} {ia ib : IT} {pos : Pos} (ha : SB X A G cs a ia) (hb : SB X A G cs (.BoolOp .Or (b :: rest) pos) ib) : SB X A G cs (.BoolOp .Or (a :: b :: rest) pos) (.or ia ib) := by
  refine ⟨fun pins s σ H F ρ k ρ' I R e => ?_⟩
  unfold evT at e
  obtain ⟨⟨k1, ρ1⟩, e1, e⟩ := Option.bind_eq_some_iff.mp e
  refine BoolOp_or (thn (ha.run pins s σ H F ρ k1 ρ1 I R e1) fun v s1 ⟨x, H1, I1, r1, F1, x1, R1, d1⟩ => ?_)
  cases d1
  cases r1
  refine wpAny_truthy_bool ?_
  cases k1 with
  | false => exact thn (hb.run pins s1 σ H1 F1 ρ1 k ρ' I1 R1 e) fun u s' h => ext_epd x1 h
  | true => cases e; exact ⟨.bl true, H1, I1, rfl, F1, x1, R1, .bl _⟩
theorem sb_not {a : Expr} {ia : IT} {pos : Pos} (ha : SB X A G cs a ia) : SB X A G cs (.UnaryOp .Not a pos) (.not ia) := by
  refine ⟨fun pins s σ H F ρ k ρ' I R e => ?_⟩
  unfold evT at e
  obtain ⟨⟨k1, ρ1⟩, e1, e⟩ := Option.map_eq_some_iff.mp e
  cases e
  refine UnaryOp_ (thn (ha.run pins s σ H F ρ k1 _ I R e1) fun v s1 ⟨x, H1, I1, r1, F1, x1, R1, d1⟩ => ?_)
  cases d1
  cases r1
  exact not_of (wpAny_truthy_bool ⟨.bl (!k1), H1, I1, rfl, F1, x1, R1, .bl _⟩)
theorem se_bt {a : Expr} {it : IT} (h : SB X A G cs a it) : SE X A G cs a (.bt it) := by
  refine ⟨fun pins s σ H F ρ o ρ' I R e => ?_⟩
  unfold ev at e
  obtain ⟨⟨k1, ρ1⟩, e1, e⟩ := Option.map_eq_some_iff.mp e
  cases e
  exact h.run pins s σ H F ρ k1 _ I R e1
theorem se_ife {c a b : Expr} {ic : IT} {ia ib : IE} {pos : Pos} (hc : ST X A G cs c ic) (ha : SE X A G cs a ia) (hb : SE X A G cs b ib) : SE X A G cs (.IfExp c a b pos) (.ife ic ia ib) := by
  refine ⟨fun pins s σ H F ρ o ρ' I R e => ?_⟩
  unfold ev at e
  obtain ⟨⟨k1, ρ1⟩, e1, e⟩ := Option.bind_eq_some_iff.mp e
  refine wpAny_IfExp (thn (hc.run pins s σ H F ρ k1 ρ1 I R e1) fun d s1 ⟨H1, I1, q, F1, x1, R1⟩ => ?_)
  subst q
  cases d with
  | true => exact thn (ha.run pins s1 σ H1 F1 ρ1 o ρ' I1 R1 e) fun u s' h => ext_ep x1 h
  | false => exact thn (hb.run pins s1 σ H1 F1 ρ1 o ρ' I1 R1 e) fun u s' h => ext_ep x1 h
/-! ### pop -/
theorem ownE_some {i : Nat} {xs : List PyData} (h : ownE ρ i = some xs) : getE ρ i = some (.own xs) := by
  unfold ownE at h
  split at h
  · rename_i q; cases h; exact q
  · cases h
theorem slot_own {i : Nat} {xs : List PyData} (R : Rel X.K A G F H σ ρ) (e : getE ρ i = some (.own xs)) : ∃ a vs, σ[i]? = some (some (.ref a)) ∧ H a = some (.lst vs) ∧ DnA X.K F vs xs := by
  obtain ⟨a, h1, _, _, vs, h2, d⟩ := R.own i xs e
  exact ⟨a, vs, h1, h2, d⟩
theorem se_pop {i : Nat} {y : Str} {p apos cpos : Pos} (hN : X.N[i]? = some y := by rfl) (hvi : Vis X.env.scope y := by first | exact Or.inl rfl | exact Or.inr (Or.inl rfl) | exact Or.inr (Or.inr rfl)) (hd : (y == ("__debug__" : Str)) = false := by decide)
    (hcd : (y == ("__classdict__" : Str)) = false := by decide) (hbase : attributeBase (.Name y p) "pop" X.env (eval (.Name y p) X.env) = eval (.Name y p) X.env := by rfl) (hline : (apos.endLine == cpos.line) = true := by rfl) :
    SE X A G cs (.Call (.Attribute (.Name y p) "pop" apos) [] [] cpos) (.pop i) := by
  refine ⟨fun pins s σ H F ρ o ρ' I R e => ?_⟩
  unfold ev at e
  split at e
  · rename_i xs e1
    obtain ⟨d, e2, e⟩ := Option.map_eq_some_iff.mp e
    cases e
    obtain ⟨a, vs, h0, h1, dv⟩ := slot_own R e1
    obtain ⟨v, g1, g2⟩ := dv.get e2
    refine (pe_bm0 PySem.F.plainAttrs_list PySem.F.slot_list_pop PySem.F.type_list_pop mt_pop (pe_var hN hvi hd hcd) hbase hline).run pins s σ H _ I ⟨_, h0, .inl ⟨rfl, _, SqL.of h1⟩, a, vs, v, rfl, rfl, h1, by rw [dv.len]; exact g1, ?_⟩
    exact ⟨F, .refl, R.write e1 h0 h1 dv.dropLast, g2⟩
  · cases e
theorem se_popa {i : Nat} {y : Str} {b : Expr} {ib : IE} {p apos cpos : Pos} (hb : SE X A G cs b ib) (hN : X.N[i]? = some y := by rfl) (hvi : Vis X.env.scope y := by first | exact Or.inl rfl | exact Or.inr (Or.inl rfl) | exact Or.inr (Or.inr rfl)) (hd : (y == ("__debug__" : Str)) = false := by decide)
    (hcd : (y == ("__classdict__" : Str)) = false := by decide) (hbase : attributeBase (.Name y p) "pop" X.env (eval (.Name y p) X.env) = eval (.Name y p) X.env := by rfl)
    (hfew : ((backTo cpos (starEach [b] X.env)).all (fun x => !x.1) && (backToKw cpos (keywordEach [] X.env)).all (fun x => x.1.isSome) && decide ([b].length + ([] : List Keyword).length + (if ([] : List Keyword).isEmpty then 0 else 1) < 30)) = true := by rfl)
    (hline : (apos.endLine == cpos.line) = true := by rfl) (hs : starEach [b] X.env = (false, eval b X.env) :: starEach [] X.env := by rfl) (hplain : (backTo cpos (starEach [] X.env)).any (·.1) = false := by rfl) :
    SE X A G cs (.Call (.Attribute (.Name y p) "pop" apos) [b] [] cpos) (.popa i ib) := by
  refine ⟨fun pins s σ H F ρ o ρ' I R e => ?_⟩
  unfold ev at e
  obtain ⟨o0, e0, e⟩ := Option.bind_eq_some_iff.mp e
  obtain ⟨⟨o1, ρ1⟩, e1, e⟩ := Option.bind_eq_some_iff.mp e
  obtain ⟨k, e2, e⟩ := Option.bind_eq_some_iff.mp e
  split at e
  · rename_i xs e3
    split at e
    · rename_i hk
      obtain ⟨j, e4, e⟩ := Option.bind_eq_some_iff.mp e
      obtain ⟨d, e5, e⟩ := Option.map_eq_some_iff.mp e
      cases e
      obtain ⟨a, vs0, h0, h1, _⟩ := slot_own R (ownE_some e0)
      refine (pe_bm PySem.F.plainAttrs_list PySem.F.slot_list_pop PySem.F.type_list_pop mt_popAt (pe_var hN hvi hd hcd) (pa_cons hb.pe pa_nil hs) hbase hfew hline hs hplain).run pins s σ H _ I ⟨_, h0, .inl ⟨rfl, _, SqL.of h1⟩, F, ρ, o1, ρ1, R, e1, fun v H1 _ pp => ?_⟩
      obtain ⟨F1, x1, R1, d1⟩ := pp.toD
      rw [intOf_some e2] at d1
      cases d1
      obtain ⟨a', vs, h0', h1', dv⟩ := slot_own R1 e3
      rw [h0] at h0'
      cases h0'
      obtain ⟨v, g1, g2⟩ := dv.get e5
      unfold small at hk
      simp only [Bool.and_eq_true, decide_eq_true_eq] at hk
      have hj := (ixN_seq (show L2.ixN xs.length k = some j from e4)).1
      refine ⟨a, vs, k, j, v, rfl, rfl, h1', by omega, by omega, by rw [dv.len]; exact hj, g1, F1, x1, R1.write e3 h0 h1' (dv.erase j), g2⟩
    · cases e
  · cases e
end
end Ev
set_option Elab.async false
set_option linter.all false
set_option maxRecDepth 100000
/-! Ev8: calls of own defs; what a loop walks. -/
namespace Ev
open PySem PySem.Spec PyProof.Rows L2
/-! ### a def's promise -/
/-- the addresses of the own lists that are handed on -/
def ows : List V → List Ov → List Addr
  | .ref a :: vs, .own _ :: os => a :: ows vs os
  | _ :: vs, _ :: os => ows vs os
  | _, _ => []
inductive ArgO (K : Frag) (F H : Hp) : List V → List Ov → Prop
  | nil : ArgO K F H [] []
  | imm {v : V} {d : PyData} {vs : List V} {os : List Ov} : Dn K F v d → ArgO K F H vs os → ArgO K F H (v :: vs) (.imm d :: os)
  | own {a : Addr} {ws : List V} {xs : List PyData} {vs : List V} {os : List Ov} : F a = none → H a = some (.lst ws) → DnA K F ws xs → ArgO K F H vs os → ArgO K F H (.ref a :: vs) (.own xs :: os)
inductive OutL (K : Frag) (F H : Hp) : List Addr → List (List PyData) → Prop
  | nil : OutL K F H [] []
  | cons {a : Addr} {ws : List V} {xs : List PyData} {as : List Addr} {ls : List (List PyData)} : F a = none → H a = some (.lst ws) → DnA K F ws xs → OutL K F H as ls → OutL K F H (a :: as) (xs :: ls)
structure Ret (K : Frag) (F H F' H' : Hp) (as : List Addr) (o : Ov) (l : List (List PyData)) (v : V) : Prop where
  frm : ∀ b x, H b = some x → b ∉ as → H' b = some x
  le : Same F F'
  new : ∀ b, F b = none → H b ≠ none → F' b = none
  sub : Same F' H'
  out : OutL K F' H' as l
  res : match o with
    | .imm d => Dn K F' v d
    | .own xs => ∃ a ws, v = .ref a ∧ H a = none ∧ F' a = none ∧ H' a = some (.lst ws) ∧ DnA K F' ws xs
def spF (K : Frag) (cs : CS) (f np : Nat) : Sp := fun vs H Q _ => ∃ F os o l, Same F H ∧ ArgO K F H vs os ∧ (ows vs os).Nodup ∧ vs.length = np ∧ cs f os = some (o, l) ∧ ∀ v H' F', Ret K F H F' H' (ows vs os) o l v → Q v H'
inductive RefsAt (σ : L2.St) : List Nat → List Addr → Prop
  | nil : RefsAt σ [] []
  | cons {x : Nat} {a : Addr} {xs : List Nat} {as : List Addr} : σ[x]? = some (some (.ref a)) → RefsAt σ xs as → RefsAt σ (x :: xs) (a :: as)
section
variable {X : Cx} {A : List (Nat × Addr)} {G : Hp} {cs : CS} {pins : List (Addr × Obj)} {s : Shared} {σ : L2.St} {H F : Hp} {ρ ρ' : Env} {o : Ov}
theorem ArV.len {K : Frag} : ∀ {vs : List V} {ars : List Ar}, ArV K F σ vs ars → vs.length = ars.length
  | _, _, .nil => rfl
  | _, _, .d _ q => by simp [q.len]
  | _, _, .r _ q => by simp [q.len]
theorem args_ok {K : Frag} (R : Rel K A G F H σ ρ) : ∀ {vs : List V} {ars : List Ar} {os : List Ov}, ArV K F σ vs ars → arAll ρ ars = some os → ArgO K F H vs os ∧ RefsAt σ (refsA ars) (ows vs os) ∧ ∀ x ∈ refsA ars, ∃ xs, getE ρ x = some (.own xs)
  | _, _, _, .nil, e => by
    cases e
    exact ⟨.nil, .nil, fun x h => by cases h⟩
  | _, _, _, .d (v := v) (d := d) (vs := vs) h q, e => by
    unfold arAll at e
    obtain ⟨o1, e1, e⟩ := Option.bind_eq_some_iff.mp e
    obtain ⟨os, e2, rfl⟩ := Option.map_eq_some_iff.mp e
    cases e1
    obtain ⟨q1, q2, q3⟩ := args_ok R q e2
    refine ⟨.imm h q1, ?_, q3⟩
    have : ows (v :: vs) (.imm d :: os) = ows vs os := by cases v <;> rfl
    rw [this]
    exact q2
  | _, _, _, .r (x := x) h q, e => by
    unfold arAll at e
    obtain ⟨o1, e1, e⟩ := Option.bind_eq_some_iff.mp e
    obtain ⟨os, e2, rfl⟩ := Option.map_eq_some_iff.mp e
    obtain ⟨xs, w, e1⟩ := Option.map_eq_some_iff.mp (show (ownE ρ x).map Ov.own = some o1 from e1)
    cases e1
    have w := ownE_some w
    obtain ⟨q1, q2, q3⟩ := args_ok R q e2
    obtain ⟨a, h0, g, f, ws, h1, d⟩ := R.own x xs w
    rw [h] at h0
    cases h0
    refine ⟨.own f h1 d q1, .cons h q2, fun y hy => ?_⟩
    rcases List.mem_cons.mp hy with rfl | hy
    · exact ⟨xs, w⟩
    · exact q3 y hy
theorem refs_mem : ∀ {xs : List Nat} {as : List Addr}, RefsAt σ xs as → (∀ x ∈ xs, ∃ a ∈ as, σ[x]? = some (some (.ref a))) ∧ ∀ a ∈ as, ∃ x ∈ xs, σ[x]? = some (some (.ref a))
  | _, _, .nil => ⟨(fun _ h => by cases h), (fun _ h => by cases h)⟩
  | _, _, .cons h q => by
    obtain ⟨q1, q2⟩ := refs_mem q
    refine ⟨fun x hx => ?_, fun a ha => ?_⟩
    · rcases List.mem_cons.mp hx with rfl | hx
      · exact ⟨_, List.mem_cons_self, h⟩
      · obtain ⟨a, h1, h2⟩ := q1 x hx
        exact ⟨a, List.mem_cons_of_mem _ h1, h2⟩
    · rcases List.mem_cons.mp ha with rfl | ha
      · exact ⟨_, List.mem_cons_self, h⟩
      · obtain ⟨x, h1, h2⟩ := q2 a ha
        exact ⟨x, List.mem_cons_of_mem _ h1, h2⟩
theorem refs_nodup {K : Frag} (R : Rel K A G F H σ ρ) : ∀ {xs : List Nat} {as : List Addr}, RefsAt σ xs as → xs.Nodup → (∀ x ∈ xs, ∃ l, getE ρ x = some (.own l)) → as.Nodup
  | _, _, .nil, _, _ => List.nodup_nil
  | _, _, .cons (x := x) (a := a) h q, n, w => by
    obtain ⟨n1, n2⟩ := List.nodup_cons.mp n
    refine List.nodup_cons.mpr ⟨fun ha => ?_, refs_nodup R q n2 fun y hy => w y (List.mem_cons_of_mem _ hy)⟩
    obtain ⟨y, hy, e⟩ := (refs_mem q).2 a ha
    obtain ⟨l1, w1⟩ := w x List.mem_cons_self
    obtain ⟨l2, w2⟩ := w y (List.mem_cons_of_mem _ hy)
    have := R.dis x y l1 l2 a w1 w2 h e
    subst this
    exact n1 hy
theorem put_get {K : Frag} {F' H' : Hp} : ∀ {xs : List Nat} {as : List Addr} {ls : List (List PyData)} {ρ ρ2 : Env}, RefsAt σ xs as → OutL K F' H' as ls → putBack xs ls ρ = some ρ2 → xs.Nodup → (∀ x ∈ xs, x < ρ.length) →
    ρ2.length = ρ.length ∧ (∀ i, i ∉ xs → getE ρ2 i = getE ρ i) ∧ ∀ i ∈ xs, ∃ a ws l, σ[i]? = some (some (.ref a)) ∧ getE ρ2 i = some (.own l) ∧ F' a = none ∧ H' a = some (.lst ws) ∧ DnA K F' ws l
  | _, _, _, ρ, ρ2, .nil, .nil, e, _, _ => by
    cases e
    exact ⟨rfl, fun _ _ => rfl, fun _ h => by cases h⟩
  | _, _, _, ρ, ρ2, .cons (x := x) (a := a) h q, .cons (ws := ws) (xs := l) f1 h1 d1 p, e, n, w => by
    obtain ⟨n1, n2⟩ := List.nodup_cons.mp n
    obtain ⟨z1, z2, z3⟩ := put_get q p (show putBack _ _ (setE ρ x (.own l)) = some ρ2 from e) n2 fun y hy => by rw [setE_len]; exact w y (List.mem_cons_of_mem _ hy)
    refine ⟨z1.trans setE_len, fun i hi => ?_, fun i hi => ?_⟩
    · have i1 : x ≠ i := fun z => hi (by rw [z]; exact List.mem_cons_self)
      rw [z2 i (fun z => hi (List.mem_cons_of_mem _ z)), getE_set, if_neg (fun z => i1 z.1)]
    · rcases List.mem_cons.mp hi with rfl | hi
      · refine ⟨a, ws, l, h, ?_, f1, h1, d1⟩
        rw [z2 i n1, getE_set, if_pos ⟨rfl, w i List.mem_cons_self⟩]
      · exact z3 i hi
/-- behind a call -/
theorem Rel.ret {K : Frag} {F' H' : Hp} {xs : List Nat} {as : List Addr} {l : List (List PyData)} {v : V} {ρ2 : Env} (R : Rel K A G F H σ ρ) (ra : RefsAt σ xs as) (n : xs.Nodup) (w : ∀ x ∈ xs, ∃ l, getE ρ x = some (.own l)) (e : putBack xs l ρ = some ρ2) (q : Ret K F H F' H' as o l v) : Post K A G F σ ρ2 o v H' := by
  obtain ⟨z1, z2, z3⟩ := put_get ra q.out e n fun x hx => by obtain ⟨l, w⟩ := w x hx; exact getE_lt w
  have hG : ∀ a ∈ as, G a = none ∧ H a ≠ none := fun a ha => by
    obtain ⟨x, hx, e⟩ := (refs_mem ra).2 a ha
    obtain ⟨l, w⟩ := w x hx
    obtain ⟨b, h0, g, f, ws, h1, _⟩ := R.own x l w
    rw [e] at h0; cases h0
    exact ⟨g, by rw [h1]; simp⟩
  -- an own slot behind is one ahead
  have back : ∀ i l, getE ρ2 i = some (.own l) → ∃ l', getE ρ i = some (.own l') := fun i l h => by
    by_cases hi : i ∈ xs
    · exact w i hi
    · rw [z2 i hi] at h; exact ⟨l, h⟩
  have nas : ∀ i l b, i ∉ xs → getE ρ i = some (.own l) → σ[i]? = some (some (.ref b)) → b ∉ as := fun i l b hi h e ha => by
    obtain ⟨x, hx, e2⟩ := (refs_mem ra).2 b ha
    obtain ⟨l2, w2⟩ := w x hx
    have := R.dis i x l l2 b h w2 e e2
    subst this
    exact hi hx
  have RR : Rel K A G F' H' σ ρ2 := by
    refine ⟨fun b x h => ?_, q.sub, fun i d h => ?_, fun i l' h => ?_, fun i j l1 l2 a h1 h2 e1 e2 => ?_, R.pin, z1.trans R.len⟩
    · exact q.frm b x (R.frm b x h) fun ha => by rw [(hG b ha).1] at h; cases h
    · by_cases hi : i ∈ xs
      · obtain ⟨a, ws, l, _, z, _⟩ := z3 i hi
        rw [h] at z; cases z
      · rw [z2 i hi] at h
        obtain ⟨v, h1, h2⟩ := R.imm i d h
        exact ⟨v, h1, h2.mono q.le⟩
    · by_cases hi : i ∈ xs
      · obtain ⟨a, ws, l, h0, z, f, h1, d⟩ := z3 i hi
        rw [h] at z; cases z
        obtain ⟨b, hb, e⟩ := (refs_mem ra).1 i hi
        rw [h0] at e; cases e
        exact ⟨a, h0, (hG a hb).1, f, ws, h1, d⟩
      · rw [z2 i hi] at h
        obtain ⟨b, h0, g, f, ws, h1, d⟩ := R.own i l' h
        have hb := nas i l' b hi h h0
        exact ⟨b, h0, g, q.new b f (by rw [h1]; simp), ws, q.frm b _ h1 hb, d.mono q.le⟩
    · obtain ⟨l1', w1⟩ := back i l1 h1
      obtain ⟨l2', w2⟩ := back j l2 h2
      exact R.dis i j l1' l2' a w1 w2 e1 e2
  refine ⟨F', ⟨q.le, fun b f g => q.new b f fun z => g ?_⟩, RR, ?_⟩
  · cases gb : G b with
    | none => rfl
    | some x => rw [R.frm b x gb] at z; cases z
  · have r := q.res
    cases o with
    | imm d => exact r
    | own l' =>
      obtain ⟨a, ws, rfl, hn, f, h1, d⟩ := r
      refine ⟨a, rfl, ⟨R.frm.free hn, f, ws, h1, d⟩, fun i ys hi hs => ?_⟩
      obtain ⟨l2, w2⟩ := back i ys hi
      obtain ⟨b, h0, _, _, ws2, h2, _⟩ := R.own i l2 w2
      rw [hs] at h0; cases h0
      rw [hn] at h2; cases h2
theorem evs_len : ∀ {ies : IEs} {ρ ρ' : Env} {ars : List Ar}, evs cs ies ρ = some (ars, ρ') → ars.length = ies.len
  | .nil, _, _, _, h => by cases h; rfl
  | .cons _ es, _, _, _, h => by
    unfold evs at h
    obtain ⟨p, _, h⟩ := Option.bind_eq_some_iff.mp h
    obtain ⟨q, e, h⟩ := Option.map_eq_some_iff.mp h
    cases h
    simp [IEs.len, evs_len e]
  | .ref _ es, _, _, _, h => by
    unfold evs at h
    obtain ⟨p, _, h⟩ := Option.bind_eq_some_iff.mp h
    obtain ⟨q, e, h⟩ := Option.map_eq_some_iff.mp h
    cases h
    simp [IEs.len, evs_len e]
theorem se_call {CX : CXT} {k f' : Nat} {f : Addr} {fd : FuncData} {ps : List Str} {x : Str} {p pos : Pos} {e : Expr} {es : List Expr} {ies : IEs} (Fk : FnOk X.prog X.w X.K X.mg X.base CX k f fd ps (spF X.K cs f' ps.length)) (hr : Room k X.A) (hg : Gl X x) (hm : X.mg x = some (.ref f)) (hk : PySem.W.keepIn X.K (.ref f) = true)
    (hb : Binds X.K fd ps []) (hx : Passes CX X E0) (ha : SA X A G cs (e :: es) ies) (hl : ies.len = ps.length := by rfl) (hdb : (x == ("__debug__" : Str)) = false := by decide) (he : starEach (e :: es) X.env = (false, eval e X.env) :: starEach es X.env := by rfl)
    (hpl : (backTo pos (starEach es X.env)).any (·.1) = false := by rfl) : SE X A G cs (.Call (.Name x p) (e :: es) [] pos) (.call f' ies) := by
  refine ⟨fun pins s σ H F ρ o ρ' I R h => ?_⟩
  unfold ev at h
  obtain ⟨⟨as, ρ1⟩, e1, h⟩ := Option.bind_eq_some_iff.mp h
  obtain ⟨os, e2, h⟩ := Option.bind_eq_some_iff.mp h
  split at h
  · rename_i nd
    obtain ⟨⟨o', l⟩, e3, h⟩ := Option.bind_eq_some_iff.mp h
    obtain ⟨ρ2, e4, h⟩ := Option.map_eq_some_iff.mp h
    cases h
    refine (pe_call Fk hr hg hm hk hb .nil hx ha.pa hdb he hpl).run pins s σ H _ I ⟨F, ρ, as, ρ1, R, e1, fun vs H1 _ ⟨F1, x1, R1, av⟩ => ?_⟩
    obtain ⟨q1, q2, q3⟩ := args_ok R1 av e2
    rw [List.append_nil]
    have hlen : vs.length = as.length := by
      exact ArV.len av
    refine ⟨F1, os, o', l, R1.sub, q1, refs_nodup R1 q2 nd q3, by rw [hlen, evs_len e1, hl], e3, fun v H' F' q => ?_⟩
    exact (R1.ret q2 nd q3 e4 q).ext x1
  · cases h
/-! ### calls by names alone -/
structure SKw (X : Cx) (A : List (Nat × Addr)) (G : Hp) (cs : CS) (kws : List Keyword) (ies : IEs) : Prop where
  run : ∀ (pos : Pos) (pins : List (Addr × Obj)) (s : Shared) (σ : L2.St) (H F : Hp) (ρ : Env) (ars : List Ar) (ρ' : Env), Inv X pins σ H s → Rel X.K A G F H σ ρ → evs cs ies ρ = some (ars, ρ') →
    wpAny (model X.prog X.w) X.A (evalAll ((backToKw pos (keywordEach kws X.env)).map (·.2))) (AP X pins σ (PostA X.K A G F σ ρ' ars)) X.xe s
theorem skw_nil : SKw X A G cs [] .nil := ⟨fun pos pins s σ H F ρ ars ρ' I R e => by
  cases e
  exact wpAny_evalAll_nil ⟨[], H, I, .nil, F, .refl, R, .nil⟩⟩
theorem skw_cons {nm : Option Str} {kpos : Pos} {e : Expr} {kws : List Keyword} {ie : IE} {ies : IEs} (ha : SE X A G cs e ie) (hr : SKw X A G cs kws ies) : SKw X A G cs (⟨nm, e, kpos⟩ :: kws) (.cons ie ies) := by
  refine ⟨fun pos pins s σ H F ρ ars ρ' I R e => ?_⟩
  unfold evs at e
  obtain ⟨⟨o1, ρ1⟩, e1, e⟩ := Option.bind_eq_some_iff.mp e
  obtain ⟨⟨as, ρ2⟩, e2, e⟩ := Option.map_eq_some_iff.mp e
  cases e
  show wpAny _ _ (evalAll ((do let v ← eval _ X.env; standAt pos; pure v) :: (backToKw pos (keywordEach kws X.env)).map (·.2))) _ _ s
  refine wpAny_evalAll_cons (wpAny_bind (ha.on I R e1 fun u1 s1 v1 H1 F1 I1 r1 x1 R1 d1 => wpAny_bind (wpAny_standAt (wpAny_pure ?_))))
  exact thn (hr.run pos pins s1 σ H1 F1 ρ1 as _ I1 R1 e2) fun us s2 ⟨vs, H2, I2, r2, F2, x2, R2, a2⟩ => ⟨v1 :: vs, H2, I2, .cons r1 r2, F2, x1.trans x2, R2, .d (d1.mono x2.le) a2⟩
/-- the values in the parameters' order -/
def permV (pm : List Nat) (zs : List V) : List V := pm.map fun i => (zs[i]?).getD .non
def permU (pm : List Nat) (ws : List Value) : List Value := pm.map fun i => (ws[i]?).getD .none
theorem perm_rel {pm : List Nat} {zs : List V} {ws : List Value} (r : Vals zs ws) : Vals (permV pm zs) (permU pm ws) := by
  induction pm with
  | nil => exact .nil
  | cons i pm ih =>
    refine .cons ?_ ih
    show RelV ((zs[i]?).getD .non) ((ws[i]?).getD .none)
    cases h : zs[i]? with
    | some v =>
      obtain ⟨u, hu, rv⟩ := r.get h
      rw [hu]; exact rv
    | none =>
      have : ws[i]? = none := by
        rw [List.getElem?_eq_none_iff] at h ⊢
        rw [← r.length]; exact h
      rw [this]; rfl
theorem perm_dn {K : Frag} {zs : List V} {ds : List PyData} (h : DnA K F zs ds) : ∀ {pm : List Nat} {es : List PyData}, permD pm ds = some es → DnA K F (permV pm zs) es
  | [], _, e => by cases e; exact .nil
  | i :: pm, _, e => by
    unfold permD at e
    obtain ⟨d, e1, e⟩ := Option.bind_eq_some_iff.mp e
    obtain ⟨es', e2, rfl⟩ := Option.map_eq_some_iff.mp e
    obtain ⟨v, hv, dv⟩ := h.get e1
    refine .cons ?_ (perm_dn h e2)
    show Dn K F ((zs[i]?).getD .non) d
    rw [hv]; exact dv
theorem argO_imm {K : Frag} : ∀ {zs : List V} {es : List PyData}, DnA K F zs es → ArgO K F H zs (es.map Ov.imm) ∧ ows zs (es.map Ov.imm) = []
  | _, _, .nil => ⟨.nil, rfl⟩
  | _, _, .cons h q => by
    obtain ⟨a, b⟩ := argO_imm q
    refine ⟨.imm h a, ?_⟩
    show ows (_ :: _) (Ov.imm _ :: _) = []
    rw [← b]
    rename_i v vs d ds
    cases v <;> rfl
theorem se_callk {CX : CXT} {k f' : Nat} {f : Addr} {fd : FuncData} {ps ks : List Str} {x : Str} {p pos : Pos} {kws : List Keyword} {ies : IEs} {pm : List Nat} (Fk : FnOk X.prog X.w X.K X.mg X.base CX k f fd ps (spF X.K cs f' ps.length)) (hr : Room k X.A) (hg : Gl X x) (hm : X.mg x = some (.ref f)) (hk : PySem.W.keepIn X.K (.ref f) = true)
    (hb : KBn X.K fd ps 0 ks (fun _ ws => permU pm ws) (fun _ zs => permV pm zs)) (hx : Passes CX X E0) (ha : SKw X A G cs kws ies) (hl : ies.len = ks.length := by rfl) (hp : pm.length = ps.length := by rfl) (hall : (backToKw pos (keywordEach kws X.env)).all (·.1.isSome) = true := by rfl) (hks : (backToKw pos (keywordEach kws X.env)).filterMap (·.1) = ks := by rfl)
    (hdb : (x == ("__debug__" : Str)) = false := by decide) (hpl : ((backTo pos (starEach [] X.env)).any (·.1) || (backToKw pos (keywordEach kws X.env)).any (·.1.isNone)) = false := by rfl) : SE X A G cs (.Call (.Name x p) [] kws pos) (.callk f' pm ies) := by
  refine ⟨fun pins s σ H F ρ o ρ' I R h => ?_⟩
  unfold ev at h
  obtain ⟨⟨as, ρ1⟩, e1, h⟩ := Option.bind_eq_some_iff.mp h
  obtain ⟨ds, e2, h⟩ := Option.bind_eq_some_iff.mp h
  obtain ⟨es, e3, h⟩ := Option.bind_eq_some_iff.mp h
  obtain ⟨⟨o', l⟩, e4, h⟩ := Option.bind_eq_some_iff.mp h
  dsimp only at h
  split at h
  · rename_i hl0
    cases h
    subst hl0
    refine wpAny_Call_Name_kw (ld_glob I hg hm ?_ hdb)
    refine PySem.W.callWith_KW0 (h₀ := X.base) I.ok.mod.kin hk hall ?_ hpl
    refine thn (ha.run pos pins s σ H F ρ as _ I R e1) fun ws s2 ⟨zs, H2, I2, rz, F2, x2, R2, av⟩ => ⟨I2.kIn, ?_⟩
    rw [hks]
    have dz := perm_dn (av.asD e2) e3
    obtain ⟨q1, q2⟩ := argO_imm (H := H2) dz
    have hzl : zs.length = ks.length := by rw [ArV.len av, evs_len e1, hl]
    refine run_fnN (us := []) (vs := []) Fk hr hb hx I2 .nil rz rfl hzl ?_
    refine ⟨F2, es.map Ov.imm, _, [], R2.sub, q1, by rw [q2]; exact List.nodup_nil, by rw [dz.len, ← dz.len]; show (permV pm zs).length = _; unfold permV; rw [List.length_map, hp], e4, fun v H' F' q => ?_⟩
    rw [q2] at q
    exact (R2.ret (xs := []) (as := []) .nil List.nodup_nil (fun x hx => by cases hx) rfl q).ext x2
  · cases h
theorem kb0 {K : Frag} {x qual : Str} {params : Arguments} {body : List Stmt} {scope : Scope} {kws : List (Str × V)} {f : Addr} {fd : FuncData} {ps ks : List Str} {pm : List Nat} (F : FunD K x qual params body scope [] kws f fd)
    (h : ∀ (kV doc pmv : Value) (an : Option Addr) (cdv ct : Value) (ws : List Value), ws.length = ks.length → bindArgs (PySem.W.fnOf x qual params body scope .none kV doc pmv an cdv ct) ⟨[], ks.zip ws⟩ = pure (ps.zip (permU pm ws))) : KBn K fd ps 0 ks (fun _ ws => permU pm ws) (fun _ zs => permV pm zs) := by
  obtain ⟨oc, od, dV, kV, doc, pmv, an, cdv, ct, osl, rfl, lk, hcd, hD, hK⟩ := F.ex
  rcases hD with ⟨_, rfl⟩ | ⟨e, _⟩
  · refine ⟨fun s us ws _ hu hw => ?_, fun _ r2 => perm_rel r2⟩
    obtain rfl : us = [] := List.length_eq_zero_iff.mp hu
    exact .of_eq (h kV doc pmv an cdv ct ws hw)
  · exact absurd rfl e
end
end Ev
set_option Elab.async false
set_option linter.all false
set_option maxRecDepth 100000
/-! EvT: enumerate over a tuple. -/
namespace Ev
open PySem
open Sem (wp)
open AutoSeq1 (wpAny_loadPart')
set_option maxHeartbeats 1000000 in
theorem meets_enumerate_newT (l : Addr) (items : Array Value) (n : Nat) (dct : Option Addr) (sl : Array (Option Value)) :
    Meets (Builtin.«enumerate.__new__» ⟨[.type "enumerate", .ref l], []⟩) (fun _ R s => s.heap.get? l = some { cls := .type "tuple", dict := dct, data := .seq items n, slots := sl } ∧
      R (.ok (.ret (.ref (s.heap.push { cls := .type "tuple_iterator", data := .fields #[.ref l, .int 0 0] }).objs.size)))
        { s with heap := (s.heap.push { cls := .type "tuple_iterator", data := .fields #[.ref l, .int 0 0] }).push { cls := .type "enumerate", data := .fields #[.none, .bool false, .ref s.heap.objs.size, rawInt 0, .none, .none] } }) :=
  .of_wp fun prog w A R s h => by
    obtain ⟨hp, g, d, tk, os⟩ := s; obtain ⟨hl, h⟩ := h
    have hsub := sub_enumerate
    have hL : Heap.IsTuple (Shared.heap ⟨hp, g, d, tk, os⟩) l items := ⟨_, hl, rfl, n, rfl⟩
    wp_walk using wpAny_loadPart' hl
    refine wpAny_stack_any fun st => wpAny_pure ?_
    split
    · rename_i c _ _ _ _ _
      cases (c == Value.type "enumerate")
      · wp_walk using wpAny_loadPart' hl, wpAny_pyIter_tuple hL
        exact ⟨_, rfl, h⟩
      · wp_walk using wpAny_loadPart' hl, wpAny_pyIter_tuple hL
        exact ⟨_, rfl, h⟩
    · wp_walk using wpAny_loadPart' hl, wpAny_pyIter_tuple hL
      exact ⟨_, rfl, h⟩
section
variable {prog : Program} {w : World} {A : Around} {E : Value → Shared → Prop} {s : Shared}
theorem call_enumerate_tuple {l : Addr} {items : Array Value} {Q : Value → Shared → Prop} (hL : s.heap.IsTuple l items)
    (h : ∀ h', IsEnum h' (s.heap.objs.size + 1) s.heap.objs.size 0 .none → h'.IsTupleIter s.heap.objs.size l 0 → h'.objs.size = s.heap.objs.size + 2 →
      (∀ b o, s.heap.get? b = some o → h'.get? b = some o) → Q (.ref (s.heap.objs.size + 1)) { s with heap := h' }) :
    wpAny (model prog w) A (call (.type "enumerate") [.ref l]) Q E s := by
  obtain ⟨⟨c, dct, dt, sl⟩, hl, hc, n, hd⟩ := hL
  replace hc : c = .type "tuple" := hc
  replace hd : dt = .seq items n := hd
  subst hc hd
  refine callType_new F.called_enumerate (by decide) (F.typeCall_enumerate_1 _) (F.newCall_enumerate_1 _) (fun obj => F.args_object_init_2 obj _) F.entry_enumerate_new
    (meets_enumerate_newT l items n dct sl) ⟨hl, ?_⟩
  have hz : (s.heap.push { cls := .type "tuple_iterator", data := .fields #[.ref l, .int 0 0] }).objs.size = s.heap.objs.size + 1 := Heap.size_push ..
  show _ ∧ _
  rw [hz]
  have he : IsEnum ((s.heap.push { cls := .type "tuple_iterator", data := .fields #[.ref l, .int 0 0] }).push
      { cls := .type "enumerate", data := .fields #[.none, .bool false, .ref s.heap.objs.size, rawInt 0, .none, .none] }) (s.heap.objs.size + 1) s.heap.objs.size 0 .none := by
    have := Heap.get?_push_size (s.heap.push { cls := .type "tuple_iterator", data := .fields #[.ref l, .int 0 0] })
      (o := { cls := .type "enumerate", data := .fields #[.none, .bool false, .ref s.heap.objs.size, rawInt 0, .none, .none] }) rfl
    rw [hz] at this; exact this
  refine ⟨⟨_, he, rfl⟩, h _ he ⟨_, Heap.get?_push_of_some _ (Heap.get?_push_size _ rfl), rfl, rfl⟩ (by rw [Heap.size_push, hz]) fun b o x => Heap.get?_push_of_some _ (Heap.get?_push_of_some _ x)⟩
end
theorem draws_tuple {prog : Program} {w : World} {A : Around} (hh : A.handled = none) (it l : Addr) (hne : l ≠ it) (items : Array Value) :
    Draws prog w A it [it, l] items.size (fun i v => items[i]? = some v) (fun i h => h.IsTupleIter it l i ∧ h.IsTuple l items) where
  live := fun _ _ st => let ⟨o, ho, _⟩ := st.1; ⟨o, ho⟩
  frame := fun _ _ _ st hk => ⟨st.1.at fun o e => hk it (by simp) o e, st.2.at fun o e => hk l (by simp) o e⟩
  item := fun i s Q E hi st hQ => by
    refine RZ.nextOf_tuple_item st.1 st.2 (x := items[i]) (by simp [hi]) fun h' hit' hs' => ?_
    exact hQ _ h' s.toks (by simp [hi]) ⟨hit', st.2.extBut hs'.extBut hne⟩ hs'
  done := fun s Q E st hE => RZ.nextOf_tuple_end hh st.1 st.2 (by simp) hE
theorem endT {prog : Program} {w : World} {A : Around} {E : Value → Shared → Prop} {s : Shared} {e it l : Addr} {i : Nat} {k : Int} {old : Value} {items : Array Value} {Q : Option Value → Shared → Prop} (hh : A.handled = none) (he : IsEnum s.heap e it k old) (hit : s.heap.IsTupleIter it l i) (hl : s.heap.IsTuple l items) (hx : items[i]? = none)
    (hQ : ∀ h', Heap.ExtBut it s.heap h' → Q none { s with heap := h' }) : wpAny (model prog w) A (pyNext (.ref e)) Q E s := by
  have hT : s.TypeIs (.ref e) "enumerate" := ⟨_, he, rfl⟩
  unfold pyNext
  refine wpAny_bind (wpAny_attempt (wpAny_callSpecial?_slot (name := Str.ofString "__next__") hT F.slot_enumerate_next
    (wpAny_call_entry F.slot_enumerate_next hT F.entry_enumerate_next ?_ (F.args_enumerate_next_1 _))))
  show wpAny _ _ (field (.ref e) 2 >>= _) _ _ _
  refine wpAny_bind (wpAny_field he rfl (x := .ref it) rfl ?_)
  refine wpAny_bind (RZ.nextOf_tuple_end hh hit hl hx fun h' x he' hx' => ?_)
  obtain ⟨o, ho, hc⟩ := hx'
  refine wpAny_bind (wpAny_isInstance (T := "StopIteration") (b := true) ⟨o, ho, hc⟩ isSubtype_stop ?_)
  exact wpAny_pure (hQ _ he')
open PySem.Spec PyProof.Rows L2
def IteT (K : PySem.W.Frag) (a : Addr) : It :=
  ⟨fun i H => ∃ (xs : List V) (x : V), SqT K H a xs ∧ xs[i]? = some x, fun i H v H' => ∃ T x, v = .ref T ∧ H T = none ∧ H' = upd H T (.tup [.int (i : Nat), x]) ∧ ∀ xs, SqT K H a xs → xs[i]? = some x, fun i H => ∃ xs : List V, SqT K H a xs ∧ xs.length ≤ i⟩
theorem turn_enumT {P : Program} {w : World} {K : PySem.W.Frag} {elts : List Expr} {kk : Nat} {tpos : Pos} (a e it : Addr) :
    Turn P w K (.Tuple elts kk tpos) (IteT K a) [e, it] e (fun i h => (∃ old, IsEnum h e it ((i : Nat) : Int) old) ∧ h.IsTupleIter it a i ∧ e ≠ it) where
  mem := by simp
  obj := fun i h st b hb => by
    obtain ⟨⟨old, he⟩, ⟨o, ho, hc, hd⟩, _⟩ := st
    have e' : b = e ∨ b = it := by simpa using hb
    rcases e' with z | z
    · rw [z]; exact ⟨_, he, fun v q => nomatch q⟩
    · rw [z]; exact ⟨o, ho, fun v q => by rw [hd] at q; cases q⟩
  keep := fun i h h' st k => let ⟨⟨old, he⟩, hi, hne⟩ := st; ⟨⟨old, k e (by simp) _ he⟩, hi.at fun o q => k it (by simp) o q, hne⟩
  item := by
    intro X hP hw hK hc i pins s σ H E I hf st hg
    subst hP hw hK
    obtain ⟨⟨old, he⟩, hit, hne⟩ := st
    obtain ⟨xs, x, hq, hx⟩ := hg
    obtain ⟨its, rv, p, hz⟩ := I.tuple hq
    obtain ⟨u, hu, ru⟩ := rv.get hx
    have p' : s.heap.IsTuple a its.toArray := p
    have hel : e < s.heap.objs.size := Heap.lt_size he
    have hil : it < s.heap.objs.size := by obtain ⟨_, q, _⟩ := hit; exact Heap.lt_size q
    have nai : a ≠ it := fun z => by
      obtain ⟨o, q, c, _⟩ := p'
      obtain ⟨o2, q2, c2, _⟩ := hit
      rw [z, q2] at q; cases q
      rw [c2] at c; simp at c
    have nae : e ≠ a := fun z => by
      obtain ⟨o, q, c, _⟩ := p'
      rw [← z, he] at q; cases q
      simp at c
    have hl : i < its.toArray.size := by simpa using (List.getElem?_eq_some_iff.mp hu).1
    refine wpAny_pyNext_enum_itemD (draws_tuple (A := X.A.in1) (show X.A.in1.handled = none from I.ok.hd hc) it a nai its.toArray) he ⟨hit, p'⟩ hl hne (by simp; exact ⟨hne, nae⟩) fun z h' tk hz' ho hst hT hsz hk => ?_
    obtain ⟨hit', _⟩ := hst
    have ez : z = u := by
      have : its.toArray[i]? = some u := by simpa using hu
      rw [this] at hz'
      exact (Option.some.inj hz').symm
    subst ez
    refine ⟨_, rfl, wpAny_letOwnedTupleGo_enum (s := { s with heap := h', toks := tk + 1 }) ho fun h'' he' sb => ?_⟩
    have hT2 : h''.get? s.heap.objs.size = some { cls := .type "tuple", data := .seq #[.int i tk, z] } := (sb.2 _ (Nat.ne_of_gt hel)).trans hT
    have new : ObjOk X.prog X.w (upd H s.heap.objs.size (.tup [.int (i : Nat), x])) h'' s.heap.objs.size (.tup [.int (i : Nat), x]) :=
      ⟨by show 2 ≤ sizeLine; decide, [.int i tk, z], .cons ⟨_, rfl⟩ (.cons ru .nil), ⟨_, hT2, rfl, _, rfl⟩⟩
    have I1 : Inv X pins σ (upd H s.heap.objs.size (.tup [.int (i : Nat), x])) { s with heap := h'', toks := tk + 1 } :=
      I.turnedNew (ch := [e, it]) (fun b ob hb q => (sb.2 b (fun z => hb (by simp [z]))).trans (hk b ob (fun z => hb (by simp [z])) (fun z => hb (by simp [z])) q)) hf (Nat.le_refl _) new
    refine ⟨.ref s.heap.objs.size, _, I1, rfl, ⟨_, x, rfl, I.hok.fresh (Nat.le_refl _), rfl, fun ys hy => by rw [I.tuple_inj hy hq]; exact hx⟩, ⟨⟨z, ?_⟩, hit'.at fun o q => (sb.2 it (Ne.symm hne)).trans q, hne⟩, fun b hb => ?_⟩
    · have e1 : ((i + 1 : Nat) : Int) = (i : Int) + 1 := by omega
      rw [e1]; exact he'
    · have hb' : b < s.heap.objs.size := by
        have e' : b = e ∨ b = it := by simpa using hb
        rcases e' with z | z
        · rw [z]; exact hel
        · rw [z]; exact hil
      rw [upd_ne (Nat.ne_of_lt hb')]
      exact (hf b hb).1
  done := by
    intro X hP hw hK hc i pins s σ H E I hf st hg
    subst hP hw hK
    obtain ⟨⟨old, he⟩, hit, hne⟩ := st
    obtain ⟨xs, hq, hx⟩ := hg
    obtain ⟨its, rv, p, hz⟩ := I.tuple hq
    have p' : s.heap.IsTuple a its.toArray := p
    obtain ⟨f0, f1, f2, f3, f4, f5⟩ := hf it (by simp)
    have hl := rv.length
    refine endT (I.ok.hd hc) he hit p' (by simp; omega) fun h' eb => ⟨rfl, I.turned (t' := s.toks) (fun b o hb q => eb b o hb q) f0 f1 f3 f4 f5⟩
  self := fun A i s Q E st h => let ⟨⟨_, he⟩, _⟩ := st; wpAny_pyIter_enum he h
def iEnum2 (K : PySem.W.Frag) (ta : TA) : TI := fun σ H R => ta σ H fun vs H1 => ∃ a xs, vs = [.ref a] ∧ ((SqL K H1 a xs ∧ R (Ite K a) H1) ∨ (SqT K H1 a xs ∧ R (IteT K a) H1))
theorem pi_enum2 {X : Cx} {e : Expr} {ta : TA} {p pos tpos : Pos} {elts : List Expr} {kk : Nat} (hg : Gl X "enumerate") (hm : X.mg "enumerate" = none) (ha : PA X [e] ta) (hs : starEach [e] X.env = [(false, eval e X.env)] := by rfl) :
    PI X (.Tuple elts kk tpos) (.Call (.Name "enumerate" p) [e] [] pos) (iEnum2 X.K ta) := by
  refine ⟨fun pins s σ H R I h => ?_⟩
  refine Call_ (ld_blt I hg hm boot_enumerate (PyProof.Rows.callWith_type1 (thn (ha.run pos pins s σ H _ I h) fun us s1 ⟨vs, H1, I1, r1, q1⟩ => ?_) hs rfl))
  obtain ⟨a, xs, ex, q1⟩ := q1
  subst ex
  cases r1 with
  | cons r rr =>
    cases rr
    cases r
    rcases q1 with ⟨hq, q⟩ | ⟨hq, q⟩
    · obtain ⟨its, rv, p', hz⟩ := I1.list hq
      refine call_enumerate_list p'.isList fun h' he hit hsz hk => wpAny_pyIter_enum he ?_
      have I2 : Inv X pins σ H1 { s1 with heap := h' } := I1.kept (t' := s1.toks) hk
      refine ⟨s1.heap.objs.size + 1, [s1.heap.objs.size + 1, s1.heap.objs.size], _, _, H1, rfl, I2, turn_enum a (s1.heap.objs.size + 1) s1.heap.objs.size, ⟨⟨.none, he⟩, hit, Nat.succ_ne_self _⟩, fun b hb => ?_, q⟩
      have e' : b = s1.heap.objs.size + 1 ∨ b = s1.heap.objs.size := by simpa using hb
      have hle : s1.heap.objs.size ≤ b := by
        rcases e' with z | z
        · rw [z]; exact Nat.le_add_right _ _
        · rw [z]; exact Nat.le_refl _
      exact I1.fpOk hle (I1.hok.fresh hle)
    · obtain ⟨its, rv, p', hz⟩ := I1.tuple hq
      refine call_enumerate_tuple (show s1.heap.IsTuple a its.toArray from p') fun h' he hit hsz hk => wpAny_pyIter_enum he ?_
      have I2 : Inv X pins σ H1 { s1 with heap := h' } := I1.kept (t' := s1.toks) hk
      refine ⟨s1.heap.objs.size + 1, [s1.heap.objs.size + 1, s1.heap.objs.size], _, _, H1, rfl, I2, turn_enumT a (s1.heap.objs.size + 1) s1.heap.objs.size, ⟨⟨.none, he⟩, hit, Nat.succ_ne_self _⟩, fun b hb => ?_, q⟩
      have e' : b = s1.heap.objs.size + 1 ∨ b = s1.heap.objs.size := by simpa using hb
      have hle : s1.heap.objs.size ≤ b := by
        rcases e' with z | z
        · rw [z]; exact Nat.le_add_right _ _
        · rw [z]; exact Nat.le_refl _
      exact I1.fpOk hle (I1.hok.fresh hle)
end Ev
set_option Elab.async false
set_option linter.all false
set_option maxRecDepth 100000
/-! Ev9: what a loop walks; targets; comprehensions. -/
namespace Ev
open PySem PySem.Spec PyProof.Rows L2 RT RZ
/-- what a turn yields: a value of the data, or a new tuple of such -/
def Yl (K : Frag) (F H : Hp) (x : V) (H' : Hp) (d : PyData) : Prop := (H' = H ∧ Dn K F x d) ∨ ∃ p vs es, x = .ref p ∧ H p = none ∧ H' = upd H p (.tup vs) ∧ d = .tuple es ∧ DnA K F vs es
/-- all but tables of code objects stay -/
def SameN (H H' : Hp) : Prop := ∀ b o, H b = some o → (∀ ps, o ≠ .tbl ps) → H' b = some o
theorem SameN.of {H H' : Hp} (s : Same H H') : SameN H H' := fun b o e _ => s b o e
theorem SameN.lst {H H' : Hp} (s : SameN H H') {a : Addr} {vs : List V} (h : H a = some (.lst vs)) : H' a = some (.lst vs) := s _ _ h (fun _ z => by cases z)
theorem SameN.sqT {K : Frag} {H H' : Hp} (s : SameN H H') {a : Addr} {xs : List V} (h : SqT K H a xs) : SqT K H' a xs := by
  rcases h with (h | ⟨o, h⟩) | h
  · exact .inl (.inl (s _ _ h (fun _ z => by cases z)))
  · exact .inl (.inr ⟨o, s _ _ h (fun _ z => by cases z)⟩)
  · exact .inr h
/-- the walk J goes through ds, as long as the data of F stand -/
structure Feed (K : Frag) (J : It) (F : Hp) (ds : List PyData) : Prop where
  go : ∀ i H, SameN F H → i < ds.length → J.go i H
  stop : ∀ i H, SameN F H → ds.length ≤ i → J.stop i H
  yld : ∀ i H x H', SameN F H → J.yld i H x H' → ∀ d, ds[i]? = some d → Yl K F H x H' d
section
variable {K : Frag} {F : Hp}
theorem getV {vs : List V} {ds : List PyData} {i : Nat} (h : DnA K F vs ds) (hi : i < ds.length) : ∃ v, vs[i]? = some v := by
  have := h.len
  exact ⟨vs[i]'(by omega), List.getElem?_eq_getElem _⟩
theorem feed_list {a : Addr} {vs : List V} {ds : List PyData} (h : F a = some (.lst vs)) (d : DnA K F vs ds) : Feed K (Itl K a) F ds where
  go := fun i H s hi => let ⟨v, e⟩ := getV d hi; ⟨vs, v, SqL.of (s.lst h), e⟩
  stop := fun i H s hi => ⟨vs, SqL.of (s.lst h), by rw [d.len]; exact hi⟩
  yld := fun i H x H' s y e he => by
    obtain ⟨rfl, y⟩ := y
    obtain ⟨v, h1, h2⟩ := d.get he
    have h3 := y vs (SqL.of (s.lst h))
    rw [h1] at h3; cases h3
    exact .inl ⟨rfl, h2⟩
theorem feed_tup {a : Addr} {vs : List V} {ds : List PyData} (h : SqT K F a vs) (d : DnA K F vs ds) : Feed K (Itt K a) F ds where
  go := fun i H s hi => let ⟨v, e⟩ := getV d hi; ⟨vs, v, s.sqT h, e⟩
  stop := fun i H s hi => ⟨vs, s.sqT h, by rw [d.len]; exact hi⟩
  yld := fun i H x H' s y e he => by
    obtain ⟨rfl, y⟩ := y
    obtain ⟨v, h1, h2⟩ := d.get he
    have h3 := y vs (s.sqT h)
    rw [h1] at h3; cases h3
    exact .inl ⟨rfl, h2⟩
theorem feed_rng {lo : Int} {n : Nat} : Feed K (Itr lo n) F (rngD lo n) where
  go := fun i H s hi => by have : i < n := by simpa [rngD] using hi
                           exact this
  stop := fun i H s hi => by have : n ≤ i := by simpa [rngD] using hi
                             exact this
  yld := fun i H x H' s y e he => by
    obtain ⟨rfl, rfl⟩ := y
    unfold rngD at he
    rw [List.getElem?_map] at he
    obtain ⟨k, e1, rfl⟩ := Option.map_eq_some_iff.mp he
    have : k = i := by
      obtain ⟨h1, h2⟩ := List.getElem?_eq_some_iff.mp e1
      rw [List.getElem_range] at h2
      exact h2.symm
    subst this
    exact .inl ⟨rfl, .int _⟩
theorem enum_get : ∀ {ds : List PyData} {n i : Nat} {e : PyData}, (enumL n ds)[i]? = some e → ∃ d, ds[i]? = some d ∧ e = .tuple [.int ((n + i : Nat) : Int), d]
  | [], _, _, _, h => by simp [enumL] at h
  | d :: ds, n, 0, e, h => by
    unfold enumL at h
    simp at h
    exact ⟨d, rfl, h.symm⟩
  | d :: ds, n, i + 1, e, h => by
    unfold enumL at h
    obtain ⟨d', h1, h2⟩ := enum_get (ds := ds) (n := n + 1) (i := i) (by simpa using h)
    refine ⟨d', by simpa using h1, ?_⟩
    rw [h2]
    have : n + 1 + i = n + (i + 1) := by omega
    rw [this]
theorem enum_len : ∀ (ds : List PyData) (n : Nat), (enumL n ds).length = ds.length
  | [], _ => rfl
  | d :: ds, n => by unfold enumL; simp [enum_len ds]
theorem feed_enum {a : Addr} {vs : List V} {ds : List PyData} (h : F a = some (.lst vs)) (d : DnA K F vs ds) : Feed K (Ite K a) F (enumL 0 ds) where
  go := fun i H s hi => let ⟨v, e⟩ := getV d (by rw [enum_len] at hi; exact hi); ⟨vs, v, SqL.of (s.lst h), e⟩
  stop := fun i H s hi => ⟨vs, SqL.of (s.lst h), by rw [d.len]; rw [enum_len] at hi; exact hi⟩
  yld := fun i H x H' s y e he => by
    obtain ⟨T, z, rfl, hT, rfl, y⟩ := y
    obtain ⟨d', e1, rfl⟩ := enum_get he
    obtain ⟨v, h1, h2⟩ := d.get e1
    have h3 := y vs (SqL.of (s.lst h))
    rw [h1] at h3; cases h3
    refine .inr ⟨T, _, _, rfl, hT, rfl, rfl, .cons ?_ (.cons h2 .nil)⟩
    rw [Nat.zero_add]
    exact .int _
theorem feed_enumT {a : Addr} {vs : List V} {ds : List PyData} (h : SqT K F a vs) (d : DnA K F vs ds) : Feed K (IteT K a) F (enumL 0 ds) where
  go := fun i H s hi => let ⟨v, e⟩ := getV d (by rw [enum_len] at hi; exact hi); ⟨vs, v, s.sqT h, e⟩
  stop := fun i H s hi => ⟨vs, s.sqT h, by rw [d.len]; rw [enum_len] at hi; exact hi⟩
  yld := fun i H x H' s y e he => by
    obtain ⟨T, z, rfl, hT, rfl, y⟩ := y
    obtain ⟨d', e1, rfl⟩ := enum_get he
    obtain ⟨v, h1, h2⟩ := d.get e1
    have h3 := y vs (s.sqT h)
    rw [h1] at h3; cases h3
    refine .inr ⟨T, _, _, rfl, hT, rfl, rfl, .cons ?_ (.cons h2 .nil)⟩
    rw [Nat.zero_add]
    exact .int _
theorem zip_get : ∀ {xs ys : List PyData} {i : Nat} {e : PyData}, (zipL xs ys)[i]? = some e → ∃ x y, xs[i]? = some x ∧ ys[i]? = some y ∧ e = .tuple [x, y]
  | [], _, _, _, h => by simp [zipL] at h
  | _ :: _, [], _, _, h => by simp [zipL] at h
  | x :: xs, y :: ys, 0, e, h => by
    unfold zipL at h
    simp at h
    exact ⟨x, y, rfl, rfl, h.symm⟩
  | x :: xs, y :: ys, i + 1, e, h => by
    unfold zipL at h
    obtain ⟨x', y', h1, h2, h3⟩ := zip_get (xs := xs) (ys := ys) (i := i) (by simpa using h)
    exact ⟨x', y', by simpa using h1, by simpa using h2, h3⟩
theorem zip_len : ∀ (xs ys : List PyData), (zipL xs ys).length = min xs.length ys.length
  | [], _ => by simp [zipL]
  | _ :: _, [] => by simp [zipL]
  | x :: xs, y :: ys => by unfold zipL; simp [zip_len xs ys]
theorem feed_zip {a b : Addr} {vs ws : List V} {xs ys : List PyData} (h : F a = some (.lst vs)) (d : DnA K F vs xs) (h' : F b = some (.lst ws)) (d' : DnA K F ws ys) : Feed K (Itz K a b) F (zipL xs ys) where
  go := fun i H s hi => by
    rw [zip_len] at hi
    obtain ⟨v, e⟩ := getV d (show i < xs.length by omega)
    obtain ⟨w, e'⟩ := getV d' (show i < ys.length by omega)
    exact ⟨vs, ws, v, w, SqL.of (s.lst h), SqL.of (s.lst h'), e, e'⟩
  stop := fun i H s hi => by
    rw [zip_len] at hi
    have := d.len
    have := d'.len
    exact ⟨vs, ws, SqL.of (s.lst h), SqL.of (s.lst h'), by omega⟩
  yld := fun i H x H' s y e he => by
    obtain ⟨T, z, w, rfl, hT, rfl, y1, y2⟩ := y
    obtain ⟨x', y', e1, e2, rfl⟩ := zip_get he
    obtain ⟨v, h1, h2⟩ := d.get e1
    obtain ⟨v', h1', h2'⟩ := d'.get e2
    have h3 := y1 vs (SqL.of (s.lst h))
    have h3' := y2 ws (SqL.of (s.lst h'))
    rw [h1] at h3; cases h3
    rw [h1'] at h3'; cases h3'
    exact .inr ⟨T, _, _, rfl, hT, rfl, rfl, .cons h2 (.cons h2' .nil)⟩
theorem feed_zipT {a b : Addr} {vs ws : List V} {xs ys : List PyData} (h : SqT K F a vs) (d : DnA K F vs xs) (h' : SqT K F b ws) (d' : DnA K F ws ys) : Feed K (ItzT K a b) F (zipL xs ys) where
  go := fun i H s hi => by
    rw [zip_len] at hi
    obtain ⟨v, e⟩ := getV d (show i < xs.length by omega)
    obtain ⟨w, e'⟩ := getV d' (show i < ys.length by omega)
    exact ⟨vs, ws, v, w, s.sqT h, s.sqT h', e, e'⟩
  stop := fun i H s hi => by
    rw [zip_len] at hi
    have := d.len
    have := d'.len
    exact ⟨vs, ws, s.sqT h, s.sqT h', by omega⟩
  yld := fun i H x H' s y e he => by
    obtain ⟨T, z, w, rfl, hT, rfl, y1, y2⟩ := y
    obtain ⟨x', y', e1, e2, rfl⟩ := zip_get he
    obtain ⟨v, h1, h2⟩ := d.get e1
    obtain ⟨v', h1', h2'⟩ := d'.get e2
    have h3 := y1 vs (s.sqT h)
    have h3' := y2 ws (s.sqT h')
    rw [h1] at h3; cases h3
    rw [h1'] at h3'; cases h3'
    exact .inr ⟨T, _, _, rfl, hT, rfl, rfl, .cons h2 (.cons h2' .nil)⟩
theorem feed_rev {a : Addr} {vs : List V} {ds : List PyData} (h : F a = some (.lst vs)) (d : DnA K F vs ds) : Feed K (Itv K a vs.length) F ds.reverse where
  go := fun i H s hi => by
    rw [List.length_reverse, ← d.len] at hi
    exact ⟨hi, vs, vs[vs.length - 1 - i]'(by omega), SqL.of (s.lst h), List.getElem?_eq_getElem _⟩
  stop := fun i H s hi => by rw [List.length_reverse, ← d.len] at hi; exact hi
  yld := fun i H x H' s y e he => by
    obtain ⟨rfl, y⟩ := y
    have hi : i < ds.length := by
      have := (List.getElem?_eq_some_iff.mp he).1
      rw [List.length_reverse] at this
      exact this
    rw [List.getElem?_reverse hi] at he
    obtain ⟨v, h1, h2⟩ := d.get he
    have h3 := y vs (SqL.of (s.lst h))
    rw [d.len, h1] at h3; cases h3
    exact .inl ⟨rfl, h2⟩
theorem feed_revT {a : Addr} {vs : List V} {ds : List PyData} (h : SqT K F a vs) (d : DnA K F vs ds) : Feed K (ItvT K a vs.length) F ds.reverse where
  go := fun i H s hi => by
    rw [List.length_reverse, ← d.len] at hi
    exact ⟨hi, vs, vs[vs.length - 1 - i]'(by omega), s.sqT h, List.getElem?_eq_getElem _⟩
  stop := fun i H s hi => by rw [List.length_reverse, ← d.len] at hi; exact hi
  yld := fun i H x H' s y e he => by
    obtain ⟨rfl, y⟩ := y
    have hi : i < ds.length := by
      have := (List.getElem?_eq_some_iff.mp he).1
      rw [List.length_reverse] at this
      exact this
    rw [List.getElem?_reverse hi] at he
    obtain ⟨v, h1, h2⟩ := d.get he
    have h3 := y vs (s.sqT h)
    rw [d.len, h1] at h3; cases h3
    exact .inl ⟨rfl, h2⟩
end
section
variable {X : Cx} {A : List (Nat × Addr)} {G : Hp} {cs : CS} {pins : List (Addr × Obj)} {s : Shared} {σ : L2.St} {H F : Hp} {ρ ρ' : Env} {o : Ov} {tg : Expr}
/-- an iterable's reading -/
def tEvG (K : Frag) (A : List (Nat × Addr)) (G : Hp) (cs : CS) (ig : IG) : TI := fun σ H R => ∃ F ρ ds ρ', Rel K A G F H σ ρ ∧ evG cs ig ρ = some (ds, ρ') ∧ ∀ J F' H', Ext G F F' → Rel K A G F' H' σ ρ' → Feed K J F' ds → ds.length ≤ sizeLine → R J H'
abbrev SG (X : Cx) (A : List (Nat × Addr)) (G : Hp) (cs : CS) (tg e : Expr) (ig : IG) : Prop := PI X tg e (tEvG X.K A G cs ig)
theorem seqOf_some {d : PyData} {xs : List PyData} (h : seqOf d = some xs) : d = .list xs ∨ d = .tuple xs := by
  cases d <;> first | (cases h; exact .inl rfl) | (cases h; exact .inr rfl) | cases h
theorem listOf_some {d : PyData} {xs : List PyData} (h : listOf d = some xs) : d = .list xs := by
  cases d <;> first | (cases h; rfl) | cases h
theorem pairOf_some {d e : PyData} {p : List PyData × List PyData} (h : pairOf d e = some p) : (d = .list p.1 ∧ e = .list p.2) ∨ (d = .tuple p.1 ∧ e = .tuple p.2) := by
  cases d <;> cases e <;> first | (cases h; exact .inl ⟨rfl, rfl⟩) | (cases h; exact .inr ⟨rfl, rfl⟩) | cases h
theorem dn_list {K : Frag} {v : V} {xs : List PyData} (h : Dn K F v (.list xs)) : ∃ a vs, v = .ref a ∧ F a = some (.lst vs) ∧ DnA K F vs xs := by
  cases h with
  | lst h1 h2 => exact ⟨_, _, rfl, h1, h2⟩
theorem dn_tup {K : Frag} {v : V} {xs : List PyData} (h : Dn K F v (.tuple xs)) : ∃ a vs, v = .ref a ∧ SqT K F a vs ∧ DnA K F vs xs := by
  cases h with
  | tup h1 h2 => exact ⟨_, _, rfl, h1, h2⟩
theorem sg_seq {e : Expr} {ie : IE} (he : SE X A G cs e ie) : SG X A G cs tg e (.seq ie) := by
  refine ⟨fun pins s σ H R I ⟨F, ρ, ds, ρ', R0, h, q⟩ => ?_⟩
  unfold evG at h
  obtain ⟨⟨o1, ρ1⟩, e1, h⟩ := Option.bind_eq_some_iff.mp h
  obtain ⟨xs, e2, h⟩ := Option.map_eq_some_iff.mp h
  cases h
  rcases seqOf_some e2 with z | z
  · refine (pi_list he.pe).run pins s σ H R I ⟨F, ρ, o1, _, R0, e1, fun v H1 sz p => ?_⟩
    obtain ⟨F1, x1, R1, d1⟩ := p.toD
    rw [z] at d1
    obtain ⟨a, vs, rfl, a1, b1⟩ := dn_list d1
    exact ⟨a, rfl, ⟨vs, SqL.of (R1.sub _ _ a1)⟩, q _ F1 H1 x1 R1 (feed_list a1 b1) (by rw [← b1.len]; exact sz a vs (.inl (SqL.of (R1.sub _ _ a1))))⟩
  · refine (pi_tup he.pe).run pins s σ H R I ⟨F, ρ, o1, _, R0, e1, fun v H1 sz p => ?_⟩
    obtain ⟨F1, x1, R1, d1⟩ := p.toD
    rw [z] at d1
    obtain ⟨a, vs, rfl, a1, b1⟩ := dn_tup d1
    exact ⟨a, rfl, ⟨vs, sqT_same R1.sub a1⟩, q _ F1 H1 x1 R1 (feed_tup a1 b1) (by rw [← b1.len]; exact sz a vs (.inr (sqT_same R1.sub a1)))⟩
theorem sg_rng1 {e : Expr} {ie : IE} {p pos : Pos} (he : SE X A G cs e ie) (hm : X.mg "range" = none) (hg : Gl X "range" := by rfl) (hs : starEach [e] X.env = (false, eval e X.env) :: starEach [] X.env := by rfl) : SG X A G cs tg (.Call (.Name "range" p) [e] [] pos) (.rng1 ie) := by
  refine ⟨fun pins s σ H R I ⟨F, ρ, ds, ρ', R0, h, q⟩ => ?_⟩
  unfold evG at h
  obtain ⟨⟨o1, ρ1⟩, e1, h⟩ := Option.bind_eq_some_iff.mp h
  obtain ⟨k, e2, h⟩ := Option.bind_eq_some_iff.mp h
  split at h
  · rename_i hk
    cases h
    simp only [small, Bool.and_eq_true, decide_eq_true_eq] at hk
    refine (pi_range1 hg hm (pa_cons he.pe pa_nil hs) hs).run pins s σ H R I ⟨F, ρ, o1, _, R0, e1, fun v H1 sz p => ?_⟩
    obtain ⟨F1, x1, R1, d1⟩ := p.toD
    rw [intOf_some e2] at d1
    cases d1
    refine ⟨k, rfl, hk.1.1, hk.1.2, q _ F1 H1 x1 R1 feed_rng ?_⟩
    have : sizeLine = 16777216 := sizeLine_eq
    have : ((ll : Nat) : Int) = 16777216 := rfl
    simp only [rngD, List.length_map, List.length_range]
    omega
  · cases h
theorem sg_rng2 {a b : Expr} {ia ib : IE} {p pos : Pos} (ha : SE X A G cs a ia) (hb : SE X A G cs b ib) (hm : X.mg "range" = none) (hg : Gl X "range" := by rfl) (hs : starEach [a, b] X.env = (false, eval a X.env) :: starEach [b] X.env := by rfl) (hs2 : starEach [b] X.env = (false, eval b X.env) :: starEach [] X.env := by rfl) :
    SG X A G cs tg (.Call (.Name "range" p) [a, b] [] pos) (.rng2 ia ib) := by
  refine ⟨fun pins s σ H R I ⟨F, ρ, ds, ρ', R0, h, q⟩ => ?_⟩
  unfold evG at h
  obtain ⟨⟨o1, ρ1⟩, e1, h⟩ := Option.bind_eq_some_iff.mp h
  obtain ⟨⟨o2, ρ2⟩, e2, h⟩ := Option.bind_eq_some_iff.mp h
  obtain ⟨i, e3, h⟩ := Option.bind_eq_some_iff.mp h
  obtain ⟨j, e4, h⟩ := Option.bind_eq_some_iff.mp h
  split at h
  · rename_i hk
    cases h
    simp only [small, Bool.and_eq_true, decide_eq_true_eq] at hk
    refine (pi_range2 hg hm (pa_cons ha.pe (pa_cons hb.pe pa_nil hs2) hs) (by rw [hs, hs2]; rfl) (by rw [hs2]; rfl)).run pins s σ H R I ⟨F, ρ, o1, ρ1, R0, e1, fun v H1 sz p => ?_⟩
    obtain ⟨F1, x1, R1, d1⟩ := p.toD
    refine ⟨F1, ρ1, o2, _, R1, e2, fun v2 H2 sz2 p2 => ?_⟩
    obtain ⟨F2, x2, R2, d2⟩ := p2.toD
    rw [intOf_some e3] at d1
    rw [intOf_some e4] at d2
    cases d1
    cases d2
    refine ⟨i, j, rfl, ⟨hk.1.1.1, hk.1.1.2, hk.1.2.1, hk.1.2.2⟩, q _ F2 H2 (x1.trans x2) R2 feed_rng ?_⟩
    have : sizeLine = 16777216 := sizeLine_eq
    have : ((ll : Nat) : Int) = 16777216 := rfl
    simp only [rngD, List.length_map, List.length_range]
    omega
  · cases h
theorem sg_enum {e : Expr} {ie : IE} {elts : List Expr} {kk : Nat} {tpos p pos : Pos} (he : SE X A G cs e ie) (hm : X.mg "enumerate" = none) (hg : Gl X "enumerate" := by rfl) (hs : starEach [e] X.env = (false, eval e X.env) :: starEach [] X.env := by rfl) : SG X A G cs (.Tuple elts kk tpos) (.Call (.Name "enumerate" p) [e] [] pos) (.enum ie) := by
  refine ⟨fun pins s σ H R I ⟨F, ρ, ds, ρ', R0, h, q⟩ => ?_⟩
  unfold evG at h
  obtain ⟨⟨o1, ρ1⟩, e1, h⟩ := Option.bind_eq_some_iff.mp h
  obtain ⟨xs, e2, h⟩ := Option.map_eq_some_iff.mp h
  cases h
  refine (pi_enum2 hg hm (pa_cons he.pe pa_nil hs) hs).run pins s σ H R I ⟨F, ρ, o1, _, R0, e1, fun v H1 sz p => ?_⟩
  obtain ⟨F1, x1, R1, d1⟩ := p.toD
  rcases seqOf_some e2 with z | z
  · rw [z] at d1
    obtain ⟨a, vs, rfl, a1, b1⟩ := dn_list d1
    exact ⟨a, vs, rfl, .inl ⟨SqL.of (R1.sub _ _ a1), q _ F1 H1 x1 R1 (feed_enum a1 b1) (by rw [enum_len, ← b1.len]; exact sz a vs (.inl (SqL.of (R1.sub _ _ a1))))⟩⟩
  · rw [z] at d1
    obtain ⟨a, vs, rfl, a1, b1⟩ := dn_tup d1
    exact ⟨a, vs, rfl, .inr ⟨sqT_same R1.sub a1, q _ F1 H1 x1 R1 (feed_enumT a1 b1) (by rw [enum_len, ← b1.len]; exact sz a vs (.inr (sqT_same R1.sub a1)))⟩⟩
theorem sg_zip {a b : Expr} {ia ib : IE} {elts : List Expr} {kk : Nat} {tpos p pos : Pos} (ha : SE X A G cs a ia) (hb : SE X A G cs b ib) (hm : X.mg "zip" = none) (hg : Gl X "zip" := by rfl) (hs : starEach [a, b] X.env = (false, eval a X.env) :: starEach [b] X.env := by rfl) (hs2 : starEach [b] X.env = (false, eval b X.env) :: starEach [] X.env := by rfl)
    (hpl : (backTo pos (starEach [b] X.env)).any (·.1) = false := by rfl) : SG X A G cs (.Tuple elts kk tpos) (.Call (.Name "zip" p) [a, b] [] pos) (.zip ia ib) := by
  refine ⟨fun pins s σ H R I ⟨F, ρ, ds, ρ', R0, h, q⟩ => ?_⟩
  unfold evG at h
  obtain ⟨⟨o1, ρ1⟩, e1, h⟩ := Option.bind_eq_some_iff.mp h
  obtain ⟨⟨o2, ρ2⟩, e2, h⟩ := Option.bind_eq_some_iff.mp h
  obtain ⟨⟨xs, ys⟩, e3, h⟩ := Option.map_eq_some_iff.mp h
  cases h
  refine (pi_zipA hg hm (pa_cons ha.pe (pa_cons hb.pe pa_nil hs2) hs) hs hpl).run pins s σ H R I ⟨F, ρ, o1, ρ1, R0, e1, fun v H1 sz p => ?_⟩
  obtain ⟨F1, x1, R1, d1⟩ := p.toD
  refine ⟨F1, ρ1, o2, _, R1, e2, fun v2 H2 sz2 p2 => ?_⟩
  obtain ⟨F2, x2, R2, d2⟩ := p2.toD
  have d1 := d1.mono x2.le
  rcases pairOf_some e3 with ⟨z1, z2⟩ | ⟨z1, z2⟩
  · rw [z1] at d1
    rw [z2] at d2
    obtain ⟨a, vs, rfl, a1, b1⟩ := dn_list d1
    obtain ⟨a', ws, rfl, a2, b2⟩ := dn_list d2
    refine ⟨a, a', vs, ws, rfl, .inl ⟨SqL.of (R2.sub _ _ a1), SqL.of (R2.sub _ _ a2), q _ F2 H2 (x1.trans x2) R2 (feed_zip a1 b1 a2 b2) ?_⟩⟩
    have := sz2 a vs (.inl (SqL.of (R2.sub _ _ a1)))
    have := b1.len
    rw [zip_len]
    dsimp only at *
    omega
  · rw [z1] at d1
    rw [z2] at d2
    obtain ⟨a, vs, rfl, a1, b1⟩ := dn_tup d1
    obtain ⟨a', ws, rfl, a2, b2⟩ := dn_tup d2
    refine ⟨a, a', vs, ws, rfl, .inr ⟨sqT_same R2.sub a1, sqT_same R2.sub a2, q _ F2 H2 (x1.trans x2) R2 (feed_zipT a1 b1 a2 b2) ?_⟩⟩
    have := sz2 a vs (.inr (sqT_same R2.sub a1))
    have := b1.len
    rw [zip_len]
    dsimp only at *
    omega
theorem sg_rev {e : Expr} {ie : IE} {p pos : Pos} (he : SE X A G cs e ie) (hm : X.mg "reversed" = none) (hg : Gl X "reversed" := by rfl) (hs : starEach [e] X.env = (false, eval e X.env) :: starEach [] X.env := by rfl) : SG X A G cs tg (.Call (.Name "reversed" p) [e] [] pos) (.rev ie) := by
  refine ⟨fun pins s σ H R I ⟨F, ρ, ds, ρ', R0, h, q⟩ => ?_⟩
  unfold evG at h
  obtain ⟨⟨o1, ρ1⟩, e1, h⟩ := Option.bind_eq_some_iff.mp h
  obtain ⟨xs, e2, h⟩ := Option.map_eq_some_iff.mp h
  cases h
  refine (pi_revA hg hm he.pe hs).run pins s σ H R I ⟨F, ρ, o1, _, R0, e1, fun v H1 sz p => ?_⟩
  obtain ⟨F1, x1, R1, d1⟩ := p.toD
  rcases seqOf_some e2 with z | z
  · rw [z] at d1
    obtain ⟨a, vs, rfl, a1, b1⟩ := dn_list d1
    exact ⟨a, vs, rfl, .inl ⟨SqL.of (R1.sub _ _ a1), q _ F1 H1 x1 R1 (feed_rev a1 b1) (by rw [List.length_reverse, ← b1.len]; exact sz a vs (.inl (SqL.of (R1.sub _ _ a1))))⟩⟩
  · rw [z] at d1
    obtain ⟨a, vs, rfl, a1, b1⟩ := dn_tup d1
    exact ⟨a, vs, rfl, .inr ⟨sqT_same R1.sub a1, q _ F1 H1 x1 R1 (feed_revT a1 b1) (by rw [List.length_reverse, ← b1.len]; exact sz a vs (.inr (sqT_same R1.sub a1)))⟩⟩

/-! ### targets -/
/-- a target's reading: data are stored -/
structure SP' (X : Cx) (A : List (Nat × Addr)) (tg : Expr) (is : List Nat) : Prop where
  run : ∀ (G : Hp) (pins : List (Addr × Obj)) (s : Shared) (σ : L2.St) (H F : Hp) (ρ : Env) (v : V) (u : Value) (d : PyData) (ρ' : Env), Inv X pins σ H s → RelV v u → Rel X.K A G F H σ ρ → Dn X.K F v d → bindPat is d ρ = some ρ' →
    wpAny (model X.prog X.w) X.A (assign tg X.env u) (fun _ s' => ∃ σ', Inv X pins σ' H s' ∧ Rel X.K A G F H σ' ρ' ∧ (∀ j, j ∉ is → σ'[j]? = σ[j]?) ∧ σ'.length = σ.length) X.xe s
structure SPs (X : Cx) (A : List (Nat × Addr)) (tgs : List Expr) (is : List Nat) : Prop where
  run : ∀ (G : Hp) (pins : List (Addr × Obj)) (s : Shared) (σ : L2.St) (H F : Hp) (ρ : Env) (vs : List V) (us : List Value) (ds : List PyData) (ρ' : Env), Inv X pins σ H s → Vals vs us → Rel X.K A G F H σ ρ → DnA X.K F vs ds → setAll is ds ρ = some ρ' →
    wpAny (model X.prog X.w) X.A (assignInOrder ((assignEach tgs X.env).map (·.2)) us) (fun _ s' => ∃ σ', Inv X pins σ' H s' ∧ Rel X.K A G F H σ' ρ' ∧ (∀ j, j ∉ is → σ'[j]? = σ[j]?) ∧ σ'.length = σ.length) X.xe s
theorem name_store {i : Nat} {x : Str} {p : Pos} {v : V} {u : Value} {d : PyData} (hN : X.N.Nodup) (hi : X.N[i]? = some x) (hx : Loc X.env.scope x) (hA : ∀ q ∈ A, q.1 ≠ i) (hf : X.fn x = true ∨ X.env.scope.names.lookup x = some .local) (I : Inv X pins σ H s) (r : RelV v u) (R : Rel X.K A G F H σ ρ) (h : Dn X.K F v d) :
    wpAny (model X.prog X.w) X.A (assign (.Name x p) X.env u) (fun _ s' => ∃ σ', Inv X pins σ' H s' ∧ Rel X.K A G F H σ' (setE ρ i (.imm d)) ∧ (∀ j, j ∉ [i] → σ'[j]? = σ[j]?) ∧ σ'.length = σ.length) X.xe s :=
  thn ((pg_name hN hi hx hf).run pins s σ H v u (fun σ' H' => σ' = σ.set i (some v) ∧ H' = H) I r ⟨rfl, rfl⟩) fun _ s' ⟨σ', H', I', e1, e2⟩ => by
    subst e1 e2
    exact ⟨_, I', R.store h hA, fun j hj => List.getElem?_set_ne (fun e => hj (by simp [e])), by simp⟩
theorem sp_name {i : Nat} {x : Str} {p : Pos} (hN : X.N.Nodup) (hA : ∀ q ∈ A, q.1 ≠ i) (hi : X.N[i]? = some x := by rfl) (hx : Loc X.env.scope x := by first | exact Or.inl rfl | exact Or.inr rfl)
    (hf : X.fn x = true ∨ X.env.scope.names.lookup x = some .local := by first | exact .inl rfl | exact .inr rfl | assumption) : SP' X A (.Name x p) [i] :=
  ⟨fun G pins s σ H F ρ v u d ρ' I r R h e => by
    unfold bindPat at e
    cases e
    exact name_store hN hi hx hA hf I r R h⟩
theorem sps_nil : SPs X A [] [] := ⟨fun G pins s σ H F ρ vs us ds ρ' I r R h e => by
  cases h with
  | nil => cases r; cases e; exact assignInOrder_nil ⟨σ, I, R, fun _ _ => rfl, rfl⟩
  | cons _ _ => cases e⟩
theorem sps_cons {i : Nat} {x : Str} {p : Pos} {es : List Expr} {is : List Nat} (hN : X.N.Nodup) (hA : ∀ q ∈ A, q.1 ≠ i) (hr : SPs X A es is) (hi : X.N[i]? = some x := by rfl) (hx : Loc X.env.scope x := by first | exact Or.inl rfl | exact Or.inr rfl)
    (hf : X.fn x = true ∨ X.env.scope.names.lookup x = some .local := by first | exact .inl rfl | exact .inr rfl | assumption)
    (hs : (assignEach (Expr.Name x p :: es) X.env).map (·.2) = assign (.Name x p) X.env :: (assignEach es X.env).map (·.2) := by rfl) : SPs X A (.Name x p :: es) (i :: is) := by
  refine ⟨fun G pins s σ H F ρ vs us ds ρ' I r R h e => ?_⟩
  cases h with
  | nil => cases e
  | cons h q =>
    cases r with
    | cons r1 r2 =>
      rw [hs]
      refine assignInOrder_cons (thn (name_store hN hi hx hA hf I r1 R h) fun _ s1 ⟨σ1, I1, R1, k1, l1⟩ => ?_)
      refine thn (hr.run G pins s1 σ1 H F _ _ _ _ ρ' I1 r2 R1 q (show setAll is _ (setE ρ i (.imm _)) = some ρ' from e)) fun _ s2 ⟨σ2, I2, R2, k2, l2⟩ => ⟨σ2, I2, R2, fun j hj => ?_, l2.trans l1⟩
      have h1 : j ∉ is := fun z => hj (List.mem_cons_of_mem _ z)
      have h2 : j ∉ [i] := fun z => hj (by rw [List.mem_singleton.mp z]; exact List.mem_cons_self)
      exact (k2 j h1).trans (k1 j h2)
theorem setAll_len : ∀ {is : List Nat} {ds : List PyData} {ρ ρ' : Env}, setAll is ds ρ = some ρ' → is.length = ds.length
  | [], [], _, _, _ => rfl
  | i :: is, d :: ds, _, _, h => by
    have := setAll_len (is := is) (ds := ds) (show setAll is ds _ = _ from h)
    simp [this]
  | [], _ :: _, _, _, h => by cases h
  | _ :: _, [], _, _, h => by cases h
theorem sp_tup {es : List Expr} {k i j : Nat} {is : List Nat} {pos : Pos} (hc : X.calm = true) (h : SPs X A es (i :: j :: is)) (hn : (assignEach es X.env).length = is.length + 2 := by rfl) (hst : (assignEach es X.env).findIdx? (·.1) = none := by rfl) : SP' X A (.Tuple es k pos) (i :: j :: is) := by
  refine ⟨fun G pins s σ H F ρ v u d ρ' I r R hd e => ?_⟩
  unfold bindPat at e
  split at e <;> first | (cases e; done) | skip
  · rename_i w; cases w
  · obtain ⟨a, vs, rfl, a1, b1⟩ := dn_tup hd
    cases r
    obtain ⟨its, rv, ht, hz⟩ := I.tuple (sqT_same R.sub a1)
    have hl : its.length = is.length + 2 := by
      have h1 := rv.length
      have h2 := b1.len
      have h3 := setAll_len e
      simp only [List.length_cons] at h3
      omega
    refine assign_Tuple_tuple (I.ok.hd hc) ht (by simp [hn, hl]) hst fun h' hx => ?_
    have I1 : Inv X pins σ H { s with heap := h' } := I.kept (t' := s.toks) fun b o e => hx b o (Nat.ne_of_lt (Heap.lt_size e)) e
    exact h.run G pins _ σ H F ρ vs _ _ ρ' I1 (by simpa using rv) R b1 e
end
end Ev
set_option Elab.async false
set_option linter.all false
set_option maxRecDepth 100000
/-! Ev10: comprehensions. -/
namespace Ev
open PySem PySem.Spec PyProof.Rows L2 RT RZ
section
variable {X : Cx} {A : List (Nat × Addr)} {G : Hp} {cs : CS} {pins : List (Addr × Obj)} {s : Shared} {σ : L2.St} {H F : Hp} {ρ ρ' : Env} {o : Ov} {tg : Expr}
theorem wipe_get {σ : L2.St} {j : Nat} : ∀ {vs : List Nat}, j ∉ vs → (wipe σ vs)[j]? = σ[j]?
  | [], _ => rfl
  | v :: vs, h => by
    unfold wipe
    rw [List.getElem?_set_ne (fun e => h (by rw [e]; exact List.mem_cons_self)), wipe_get fun z => h (List.mem_cons_of_mem _ z)]
theorem wipe_in {σ : L2.St} {j : Nat} : ∀ {vs : List Nat}, j ∈ vs → j < σ.length → (wipe σ vs)[j]? = some none
  | [], h, _ => by cases h
  | v :: vs, h, hl => by
    unfold wipe
    by_cases e : v = j
    · subst e
      rw [List.getElem?_set_self (by rw [wipe_length]; exact hl)]
    · rw [List.getElem?_set_ne e]
      rcases List.mem_cons.mp h with z | z
      · exact absurd z.symm e
      · exact wipe_in z hl
theorem wipe_ext {σ σ2 : L2.St} {vs : List Nat} (h : ∀ j, j ∉ vs → σ2[j]? = σ[j]?) (hl : σ2.length = σ.length) : wipe σ2 vs = wipe σ vs := by
  apply List.ext_getElem?
  intro j
  by_cases hj : j ∈ vs
  · by_cases hs : j < σ.length
    · rw [wipe_in hj hs, wipe_in hj (by rw [hl]; exact hs)]
    · rw [List.getElem?_eq_none (by rw [wipe_length]; omega), List.getElem?_eq_none (by rw [wipe_length]; omega)]
  · rw [wipe_get hj, wipe_get hj, h j hj]
/-- the slots of the block's own names forgotten -/
theorem Rel.wipe {K : Frag} {is : List Nat} {σ2 : L2.St} (R : Rel K A G F H σ ρ) (hA : ∀ p ∈ A, p.1 ∉ is) (hs : ∀ j, j ∉ is → σ2[j]? = σ[j]?) (hl : σ2.length = σ.length) : Rel K A G F H σ2 (clrAll is ρ) := by
  have g : ∀ j o, getE (clrAll is ρ) j = some o → j ∉ is ∧ getE ρ j = some o := fun j o h => by
    rw [getE_clrAll] at h
    split at h
    · cases h
    · rename_i z; exact ⟨z, h⟩
  refine ⟨R.frm, R.sub, fun j d h => ?_, fun j xs h => ?_, fun j k xs ys a h1 h2 e1 e2 => ?_, fun p hp => ?_, by rw [clrAll_len, hl]; exact R.len⟩
  · obtain ⟨z, h⟩ := g j _ h
    rw [hs j z]; exact R.imm j d h
  · obtain ⟨z, h⟩ := g j _ h
    rw [hs j z]; exact R.own j xs h
  · obtain ⟨z1, h1⟩ := g j _ h1
    obtain ⟨z2, h2⟩ := g k _ h2
    rw [hs j z1] at e1
    rw [hs k z2] at e2
    exact R.dis j k xs ys a h1 h2 e1 e2
  · rw [hs p.1 (hA p hp)]; exact R.pin p hp
/-- within a comprehension the list that is made is fenced off -/
theorem Rel.fence {K : Frag} {D : Addr} {acc : List V} (R : Rel K A G F H σ ρ) (hD : H D = some (.lst acc)) (n : ∀ i xs, getE ρ i = some (.own xs) → σ[i]? ≠ some (some (.ref D))) : Rel K A (upd G D (.lst acc)) F H σ ρ := by
  refine ⟨fun b x h => ?_, R.sub, R.imm, fun i xs h => ?_, R.dis, R.pin, R.len⟩
  · by_cases z : b = D
    · subst z; rw [upd_same] at h; rw [← h]; exact hD
    · rw [upd_ne z] at h; exact R.frm b x h
  · obtain ⟨a, h0, g, f, r⟩ := R.own i xs h
    have z : a ≠ D := fun z => n i xs h (by rw [← z]; exact h0)
    exact ⟨a, h0, by rw [upd_ne z]; exact g, f, r⟩
theorem Rel.unfence {K : Frag} {D : Addr} {acc : List V} (R : Rel K A (upd G D (.lst acc)) F H σ ρ) (hG : G D = none) : Rel K A G F H σ ρ := by
  have s : Same G (upd G D (.lst acc)) := same_upd hG
  refine ⟨s.trans R.frm, R.sub, R.imm, fun i xs h => ?_, R.dis, R.pin, R.len⟩
  obtain ⟨a, h0, g, f, r⟩ := R.own i xs h
  exact ⟨a, h0, s.free g, f, r⟩
theorem Rel.fenced {K : Frag} {D : Addr} {acc : List V} (R : Rel K A (upd G D (.lst acc)) F H σ ρ) : H D = some (.lst acc) ∧ ∀ i xs, getE ρ i = some (.own xs) → σ[i]? ≠ some (some (.ref D)) := by
  refine ⟨R.frm D _ upd_same, fun i xs h e => ?_⟩
  obtain ⟨a, h0, g, _⟩ := R.own i xs h
  rw [e] at h0; cases h0
  rw [upd_same] at g; cases g
theorem Ext.unfence {F' : Hp} {D : Addr} {acc : List V} (x : Ext (upd G D (.lst acc)) F F') (hG : G D = none) : Ext G F F' ∧ (F D = none → F' D = none) :=
  ⟨⟨x.le, fun b h g => x.new b h (fun z => g ((same_upd (o := .lst acc) hG).free z))⟩, fun h => x.new D h (by rw [upd_same]; simp)⟩
/-- writing the fenced list -/
theorem Rel.grown {K : Frag} {D : Addr} {acc ws : List V} (R : Rel K A G F H σ ρ) (hG : G D = none) (hF : F D = none) (n : ∀ i xs, getE ρ i = some (.own xs) → σ[i]? ≠ some (some (.ref D))) : Rel K A G F (upd H D (.lst ws)) σ ρ := by
  have s : ∀ T : Hp, T D = none → Same T H → Same T (upd H D (.lst ws)) := fun T t s b x q => by
    have z : b ≠ D := fun z => by rw [z, t] at q; cases q
    rw [upd_ne z]; exact s b x q
  refine ⟨s G hG R.frm, s F hF R.sub, R.imm, fun i xs h => ?_, R.dis, R.pin, R.len⟩
  obtain ⟨a, h0, g, f, vs, h1, d⟩ := R.own i xs h
  have z : a ≠ D := fun z => n i xs h (by rw [← z]; exact h0)
  exact ⟨a, h0, g, f, vs, by rw [upd_ne z]; exact h1, d⟩
theorem backE_len (old : Env) : ∀ (is : List Nat) (ρ : Env), (backE old is ρ).length = ρ.length
  | [], _ => rfl
  | i :: is, ρ => by
    unfold backE
    split
    · rw [setE_len, backE_len old is ρ]
    · rw [clrE_len, backE_len old is ρ]
/-- behind a comprehension -/
theorem Rel.back {K : Frag} {σ0 : L2.St} {old : Env} (Ro : ∀ i d, getE old i = some (.imm d) → ∃ v, σ0[i]? = some (some v) ∧ Dn K F v d) : ∀ {is : List Nat} {ρ : Env}, Rel K A G F H σ0 (clrAll is ρ) → Rel K A G F H σ0 (backE old is ρ)
  | [], _, R => R
  | i :: is, ρ, R => by
    have e : ∀ T : Env, clrE (clrE T i) i = clrE T i := fun T => by unfold clrE; simp
    -- the tail first, its slot i cleared
    have h1 : Rel K A G F H σ0 (clrAll is (clrE ρ i)) := by
      have : clrAll is (clrE ρ i) = clrAll (i :: is) ρ := by
        apply List.ext_getElem?
        intro j
        have q : getE (clrAll is (clrE ρ i)) j = getE (clrAll (i :: is) ρ) j := by
          rw [getE_clrAll, getE_clrAll, getE_clr]
          by_cases z1 : j ∈ is
          · simp [z1]
          · by_cases z2 : i = j
            · simp [z1, z2]
            · have z3 : ¬ j = i := fun z => z2 z.symm
              simp [z1, z2, z3]
        by_cases hl : j < ρ.length
        · have l1 : j < (clrAll is (clrE ρ i)).length := by rw [clrAll_len, clrE_len]; exact hl
          have l2 : j < (clrAll (i :: is) ρ).length := by rw [clrAll_len]; exact hl
          unfold getE at q
          rw [List.getElem?_eq_getElem l1, List.getElem?_eq_getElem l2] at q ⊢
          have q' : (clrAll is (clrE ρ i))[j] = (clrAll (i :: is) ρ)[j] := q
          rw [q']
        · rw [List.getElem?_eq_none (by rw [clrAll_len, clrE_len]; omega), List.getElem?_eq_none (by rw [clrAll_len]; omega)]
      rw [this]; exact R
    have h2 := Rel.back Ro (is := is) (ρ := clrE ρ i) h1
    have h3 : ∀ j, j ≠ i → getE (backE old is (clrE ρ i)) j = getE (backE old is ρ) j := fun j hj => by
      clear h1 h2 R
      induction is with
      | nil => show getE (clrE ρ i) j = getE ρ j; rw [getE_clr, if_neg (fun z => hj z.symm)]
      | cons k ks ih =>
        unfold backE
        split
        · rw [getE_set, getE_set, backE_len, backE_len, clrE_len, ih]
        · rw [getE_clr, getE_clr, ih]
    have sub : ∀ T : Env, T.length = ρ.length → (∀ j o, getE T j = some o → (j ≠ i ∧ getE (backE old is ρ) j = some o) ∨ (j = i ∧ ∃ d v, o = .imm d ∧ σ0[i]? = some (some v) ∧ Dn K F v d)) → Rel K A G F H σ0 T := fun T hl g => by
      refine ⟨h2.frm, h2.sub, fun j d h => ?_, fun j xs h => ?_, fun j k xs ys a h1' h2' e1 e2 => ?_, h2.pin, ?_⟩
      · rcases g j _ h with ⟨n, h⟩ | ⟨rfl, d', v, q, hv, dn⟩
        · exact h2.imm j d (by rw [h3 j n]; exact h)
        · cases q; exact ⟨v, hv, dn⟩
      · rcases g j _ h with ⟨n, h⟩ | ⟨rfl, d', v, q, _⟩
        · exact h2.own j xs (by rw [h3 j n]; exact h)
        · cases q
      · rcases g j _ h1' with ⟨n1, h1'⟩ | ⟨_, d', v, q, _⟩
        · rcases g k _ h2' with ⟨n2, h2'⟩ | ⟨_, d', v, q, _⟩
          · exact h2.dis j k xs ys a (by rw [h3 j n1]; exact h1') (by rw [h3 k n2]; exact h2') e1 e2
          · cases q
        · cases q
      · have := h2.len
        rw [backE_len, clrE_len] at this
        rw [hl]; exact this
    unfold backE
    split
    · rename_i d w
      obtain ⟨v, hv, dn⟩ := Ro i d w
      refine sub _ (by rw [setE_len, backE_len]) fun j o h => ?_
      rw [getE_set] at h
      split at h
      · rename_i z
        cases h
        exact .inr ⟨z.1.symm, d, v, rfl, hv, dn⟩
      · rename_i z
        by_cases hj : j = i
        · subst hj
          exact absurd (getE_lt h) (fun q => z ⟨rfl, q⟩)
        · exact .inl ⟨hj, h⟩
    · refine sub _ (by rw [clrE_len, backE_len]) fun j o h => ?_
      rw [getE_clr] at h
      split at h
      · cases h
      · rename_i z
        exact .inl ⟨fun q => z q.symm, h⟩
/-- a target, as a reading of HandS -/
def gPat (K : Frag) (A : List (Nat × Addr)) (is : List Nat) : TG := fun v σ H Q => ∃ G F ρ d ρ', Rel K A G F H σ ρ ∧ Dn K F v d ∧ bindPat is d ρ = some ρ' ∧ ∀ σ', Rel K A G F H σ' ρ' → (∀ j, j ∉ is → σ'[j]? = σ[j]?) → σ'.length = σ.length → Q σ' H
theorem SP'.pg {is : List Nat} (h : SP' X A tg is) : PG X tg (gPat X.K A is) := by
  refine ⟨fun pins s σ H v u Q I r ⟨G, F, ρ, d, ρ', R, hd, e, k⟩ => ?_⟩
  exact thn (h.run G pins s σ H F ρ v u d ρ' I r R hd e) fun _ s' ⟨σ', I', R', q1, q2⟩ => ⟨σ', H, I', k σ' R' q1 q2⟩
/-- the ifs of a comprehension: none, or one -/
structure STs (X : Cx) (A : List (Nat × Addr)) (G : Hp) (cs : CS) (ifs : List Expr) (it : IT) : Prop where
  pts : PTs X ifs (tEvT X.K A G cs it)
theorem sts_nil : STs X A G cs [] .tt := ⟨⟨fun pins s σ H Q I ⟨F, ρ, b, ρ', R, e, k⟩ => by
  cases e
  exact (pts_nil (X := X)).run pins s σ H Q I (k F H .refl R)⟩⟩
theorem yl_ok {K : Frag} {x : V} {H' : Hp} {d : PyData} (R : Rel K A G F H σ ρ) (y : Yl K F H x H' d) : ∃ F', Ext G F F' ∧ Rel K A G F' H' σ ρ ∧ Dn K F' x d ∧ Same H H' := by
  rcases y with ⟨rfl, h⟩ | ⟨p, vs, es, rfl, hp, rfl, rfl, h⟩
  · exact ⟨F, .refl, R, h, .refl _⟩
  · obtain ⟨F', x, R', d'⟩ := R.newT hp h
    exact ⟨F', x, R', d', same_upd hp⟩
theorem Yl.mono {K : Frag} {F' H' : Hp} {x : V} {d : PyData} (s : Same F F') (y : Yl K F H x H' d) : Yl K F' H x H' d := by
  rcases y with ⟨e, h⟩ | ⟨p, vs, es, e1, hp, e2, e3, h⟩
  · exact .inl ⟨e, h.mono s⟩
  · exact .inr ⟨p, vs, es, e1, hp, e2, e3, h.mono s⟩
theorem backE_own {old : Env} {j : Nat} {ys : List PyData} : ∀ {is : List Nat} {ρ : Env}, getE (backE old is ρ) j = some (.own ys) → j ∉ is ∧ getE ρ j = some (.own ys)
  | [], _, h => ⟨by simp, h⟩
  | i :: is, ρ, h => by
    unfold backE at h
    split at h
    · rw [getE_set] at h
      split at h
      · cases h
      · rename_i z
        obtain ⟨h1, h2⟩ := backE_own h
        refine ⟨fun q => ?_, h2⟩
        rcases List.mem_cons.mp q with rfl | q
        · exact z ⟨rfl, getE_lt h⟩
        · exact h1 q
    · rw [getE_clr] at h
      split at h
      · cases h
      · rename_i z
        obtain ⟨h1, h2⟩ := backE_own h
        refine ⟨fun q => ?_, h2⟩
        rcases List.mem_cons.mp q with rfl | q
        · exact z rfl
        · exact h1 q
/-- the ends of a turn -/
theorem Rel.turn {K : Frag} {D : Addr} {acc ws : List V} {is : List Nat} {σ2 : L2.St} (R : Rel K A (upd G D (.lst acc)) F H σ2 ρ) (hG : G D = none) (hF : F D = none) (hA : ∀ p ∈ A, p.1 ∉ is) (hs : ∀ j, j ∉ is → σ[j]? = σ2[j]?) (hl : σ.length = σ2.length) :
    Rel K A (upd G D (.lst ws)) F (upd H D (.lst ws)) σ (clrAll is ρ) := by
  obtain ⟨_, n⟩ := R.fenced
  have R1 := (R.unfence hG).wipe hA hs hl
  have n1 : ∀ i xs, getE (clrAll is ρ) i = some (.own xs) → σ[i]? ≠ some (some (.ref D)) := fun i xs h => by
    rw [getE_clrAll] at h
    split at h
    · cases h
    · rename_i z
      rw [hs i z]
      exact n i xs h
  exact (Rel.grown (acc := acc) R1 hG hF n1).fence upd_same n1
def tEvX (K : Frag) (A : List (Nat × Addr)) (cs : CS) (ie : IE) : TE := fun σ H Q => ∃ G, tEv K A G cs ie σ H Q
def tEvTX (K : Frag) (A : List (Nat × Addr)) (cs : CS) (it : IT) : TT := fun σ H Q => ∃ G, tEvT K A G cs it σ H Q
theorem lc_read {K : Frag} {is : List Nat} {ig : IG} {it : IT} {ie : IE} (R : Rel K A G F H σ ρ) (h : ev cs (.lc is ig it ie) ρ = some (o, ρ')) (hA : ∀ p ∈ A, p.1 ∉ is) {Q : VK} (k : ∀ v H', Post K A G F σ ρ' o v H' → Q v H') :
    tLc (tEvG K A G cs ig) (gPat K A is) (tEvTX K A cs it) (tEvX K A cs ie) is σ H Q := by
  unfold ev at h
  obtain ⟨⟨ds, ρ1⟩, eG, h⟩ := Option.bind_eq_some_iff.mp h
  obtain ⟨⟨items, ρ2⟩, eL, h⟩ := Option.map_eq_some_iff.mp h
  cases h
  refine ⟨F, ρ, ds, ρ1, R, eG, fun J F1 H1 x1 R1 feed hlen D hD => ?_⟩
  have hGD : G D = none := R1.frm.free hD
  have hag : ∀ j, j ∉ is → (L2.wipe σ is)[j]? = σ[j]? := fun j hj => wipe_get hj
  have hlw : (L2.wipe σ is).length = σ.length := wipe_length σ is
  refine ⟨fun i m H => m + i = ds.length ∧ ∃ F2 ρ3 accV acc rest, Ext G F1 F2 ∧ Rel K A (upd G D (.lst accV)) F2 H (L2.wipe σ is) ρ3 ∧ F2 D = none ∧ DnA K F2 accV acc ∧ acc.length ≤ i ∧ goLc is (evT cs it) (ev cs ie) (ds.drop i) ρ3 = some (rest, ρ2) ∧ items = acc ++ rest,
    ⟨ds.length, by simp, F1, clrAll is ρ1, [], [], items, .refl, ?_, R1.sub.free hD, .nil, Nat.zero_le _, by simpa using eL, rfl⟩, ?_⟩
  · have n : ∀ i xs, getE (clrAll is ρ1) i = some (.own xs) → (L2.wipe σ is)[i]? ≠ some (some (.ref D)) := fun i xs h e => by
      rw [getE_clrAll] at h
      split at h
      · cases h
      · rename_i z
        rw [hag i z] at e
        obtain ⟨a, h0, o⟩ := R1.own i xs h
        rw [e] at h0; cases h0
        exact o.ne hD rfl
    exact ((R1.wipe hA hag hlw).grow (same_upd hD)).fence upd_same n
  · rintro i m H2 ⟨hm, F2, ρ3, accV, acc, rest, x2, R2, hF2, dA, hac, eR, ei⟩
    have hsub : Same F1 H2 := x2.le.trans R2.sub
    by_cases hi : i < ds.length
    · refine .inr ⟨feed.go i H2 (.of hsub) hi, _, fun H' hW => ⟨m - 1, by omega, hW⟩, fun x H3 y => ?_⟩
      have hd : ds[i]? = some ds[i] := List.getElem?_eq_getElem hi
      have yl := (feed.yld i H2 x H3 (.of hsub) y _ hd).mono x2.le
      rw [List.drop_eq_getElem_cons hi] at eR
      unfold goLc at eR
      obtain ⟨ρ4, eB, eR⟩ := Option.bind_eq_some_iff.mp eR
      obtain ⟨⟨b, ρ5⟩, eT, eR⟩ := Option.bind_eq_some_iff.mp eR
      obtain ⟨F3, x3, R3, dn3, s3⟩ := yl_ok R2 yl
      refine ⟨_, F3, ρ3, _, ρ4, R3, dn3, eB, fun σ2 Rσ hk hl => ⟨?_, ?_⟩⟩
      · exact wipe_ext (fun j hj => (hk j hj).trans (hag j hj)) (hl.trans hlw)
      · refine ⟨_, F3, ρ4, b, ρ5, Rσ, eT, fun F4 H4 x4 R4 => ?_⟩
        have hk' : ∀ j, j ∉ is → (L2.wipe σ is)[j]? = σ2[j]? := fun j hj => (hk j hj).symm
        obtain ⟨u3, w3⟩ := x3.unfence hGD
        obtain ⟨u4, w4⟩ := x4.unfence hGD
        cases b with
        | true =>
          obtain ⟨⟨o5, ρ6⟩, eE, eR⟩ := Option.bind_eq_some_iff.mp eR
          obtain ⟨⟨r7, ρ7⟩, eN, eR⟩ := Option.map_eq_some_iff.mp eR
          cases eR
          refine L2.iteT ?_
          refine ⟨_, F4, ρ5, o5, ρ6, R4, eE, fun yv H5 _ p => ?_⟩
          obtain ⟨F5, x5, R5, d5⟩ := p.toD
          obtain ⟨u5, w5⟩ := x5.unfence hGD
          have ha := dA.len
          refine ⟨accV, R5.fenced.1, by omega, by omega, F5, clrAll is ρ6, accV ++ [yv], acc ++ [o5.d], r7, x2.trans (u3.trans (u4.trans u5)), R5.turn hGD (w5 (w4 (w3 hF2))) hA hk' hl.symm, w5 (w4 (w3 hF2)),
            (dA.mono (x3.le.trans (x4.le.trans x5.le))).app (.one d5), ?_, eN, ?_⟩
          · rw [List.length_append]
            show acc.length + 1 ≤ i + 1
            omega
          · rw [ei]; simp
        | false =>
          refine L2.iteF ?_
          refine ⟨by omega, F4, clrAll is ρ5, accV, acc, rest, x2.trans (u3.trans u4), ?_, w4 (w3 hF2), dA.mono (x3.le.trans x4.le), by omega, eR, ei⟩
          have R6 := R4.turn (ws := accV) hGD (w4 (w3 hF2)) hA hk' hl.symm
          have e6 : upd H4 D (.lst accV) = H4 := by
            funext b
            by_cases z : b = D
            · subst z; rw [upd_same]; exact R4.fenced.1.symm
            · rw [upd_ne z]
          rw [e6] at R6
          exact R6
    · have hie : i = ds.length ∨ ds.length < i := by omega
      have hi' : ds.drop i = [] := List.drop_eq_nil_of_le (by omega)
      rw [hi'] at eR
      cases eR
      refine .inl ⟨feed.stop i H2 (.of hsub) (by omega), k _ _ ⟨F2, x1.trans x2, ?_, D, rfl, ⟨hGD, hF2, accV, R2.fenced.1, ?_⟩, fun j ys h e => ?_⟩⟩
      · exact Rel.back (old := ρ1) (fun j d h => let ⟨v, h1, h2⟩ := R1.imm j d h; ⟨v, h1, h2.mono x2.le⟩) ((R2.unfence hGD).wipe (σ2 := σ) hA (fun j hj => (hag j hj).symm) hlw.symm)
      · rw [ei, List.append_nil]; exact dA
      · obtain ⟨h1, h2⟩ := backE_own h
        exact R2.fenced.2 j ys h2 ((hag j h1).trans e)
theorem se_lc {elt iter : Expr} {ifs : List Expr} {scope : Scope} {own : List (Str × Nat)} {pos : Pos} {ig : IG} {it : IT} {ie : IE} (hc : X.calm = true) (hN : X.N.Nodup) (hi : SG X A G cs tg iter ig) (ok : BlkOk X.N X.env.scope scope own) (hA : ∀ p ∈ A, p.1 ∉ own.map (·.2))
    (hg : ∀ (s : Shared) (H : Hp) (C : Addr) (cl : List (Str × Addr)) (fp : List Addr), SP' (X.blk s H scope (compEnvC scope cl C X.env) fp) A tg (own.map (·.2)))
    (ht : ∀ (G : Hp) (s : Shared) (H : Hp) (C : Addr) (cl : List (Str × Addr)) (fp : List Addr), STs (X.blk s H scope (compEnvC scope cl C X.env) fp) A G cs ifs it)
    (he : ∀ (G : Hp) (s : Shared) (H : Hp) (C : Addr) (cl : List (Str × Addr)) (fp : List Addr), SE (X.blk s H scope (compEnvC scope cl C X.env) fp) A G cs elt ie) (hs : ∀ x, foldedSetIterable iter X.env x = pure x := by intro _; rfl) :
    SE X A G cs (.ListComp elt [⟨tg, iter, ifs, 0⟩] scope pos) (.lc (own.map (·.2)) ig it ie) := by
  refine ⟨fun pins s σ H F ρ o ρ' I R h => ?_⟩
  refine (pe_lc (g := gPat X.K A (own.map (·.2))) (te := tEvX X.K A cs ie) (tt := tEvTX X.K A cs it) hc hN hi ok (fun s H C cl fp => (hg s H C cl fp).pg) (fun s H C cl fp => ⟨fun pins s' σ H Q I ⟨G', q⟩ => (ht G' s _ C cl fp).pts.run pins s' σ H Q I q⟩)
    (fun s H C cl fp => ⟨fun pins s' σ H Q I ⟨G', q⟩ => (he G' s _ C cl fp).pe.run pins s' σ H Q I q⟩) hs).run pins s σ H _ I ?_
  exact lc_read R h hA fun v H' p => p
theorem sts_one {c : Expr} {it : IT} (h : ST X A G cs c it) : STs X A G cs [c] it := ⟨pts_one h.pt⟩
end
end Ev
set_option Elab.async false
set_option linter.all false
set_option maxRecDepth 100000
/-! Ev11: statements. -/
namespace Ev
open PySem PySem.Spec PyProof.Rows L2 RT RZ
/-- what holds behind a statement -/
def EndS (K : Frag) (A : List (Nat × Addr)) (G F : Hp) (out : Out) (ρ : Env) : Ends where
  nx := fun σ H => out = .next ∧ ∃ F', Ext G F F' ∧ Rel K A G F' H σ ρ
  rt := fun v H => ∃ o σ F', out = .ret o ∧ Ext G F F' ∧ Rel K A G F' H σ ρ ∧ DnO K G F' H σ ρ v o
  bk := fun σ H => out = .brk ∧ ∃ F', Ext G F F' ∧ Rel K A G F' H σ ρ
  ct := fun σ H => out = .cont ∧ ∃ F', Ext G F F' ∧ Rel K A G F' H σ ρ
structure EndLe (E D : Ends) : Prop where
  nx : ∀ σ H, E.nx σ H → D.nx σ H
  rt : ∀ v H, E.rt v H → D.rt v H
  bk : ∀ σ H, E.bk σ H → D.bk σ H
  ct : ∀ σ H, E.ct σ H → D.ct σ H
theorem sp_le {X : Cx} {pins : List (Addr × Obj)} {E D : Ends} {f : Flow} {s : Shared} (h : L2.SP X pins E f s) (l : EndLe E D) : L2.SP X pins D f s := by
  cases f with
  | next => obtain ⟨σ, H, I, q⟩ := h; exact ⟨σ, H, I, l.nx _ _ q⟩
  | brk => obtain ⟨σ, H, I, q⟩ := h; exact ⟨σ, H, I, l.bk _ _ q⟩
  | cont => obtain ⟨σ, H, I, q⟩ := h; exact ⟨σ, H, I, l.ct _ _ q⟩
  | ret u => obtain ⟨v, σ, H, I, r, q⟩ := h; exact ⟨v, σ, H, I, r, l.rt _ _ q⟩
theorem endS_ext {K : Frag} {A : List (Nat × Addr)} {G F F1 : Hp} {out : Out} {ρ : Env} (x : Ext G F F1) : EndLe (EndS K A G F1 out ρ) (EndS K A G F out ρ) where
  nx := fun _ _ ⟨e, F', y, R⟩ => ⟨e, F', x.trans y, R⟩
  rt := fun _ _ ⟨o, σ, F', e, y, R, d⟩ => ⟨o, σ, F', e, x.trans y, R, d⟩
  bk := fun _ _ ⟨e, F', y, R⟩ => ⟨e, F', x.trans y, R⟩
  ct := fun _ _ ⟨e, F', y, R⟩ => ⟨e, F', x.trans y, R⟩
structure SS (X : Cx) (A : List (Nat × Addr)) (G : Hp) (cs : CS) (st : Stmt) (is : IS) : Prop where
  run : ∀ (pins : List (Addr × Obj)) (s : Shared) (σ : L2.St) (H F : Hp) (ρ : Env) (out : Out) (ρ' : Env), Inv X pins σ H s → Rel X.K A G F H σ ρ → evS cs is ρ = some (out, ρ') →
    wpAny (model X.prog X.w) X.A (exec st X.env) (L2.SP X pins (EndS X.K A G F out ρ')) X.xe s
structure SB' (X : Cx) (A : List (Nat × Addr)) (G : Hp) (cs : CS) (st : List Stmt) (is : ISs) : Prop where
  run : ∀ (pins : List (Addr × Obj)) (s : Shared) (σ : L2.St) (H F : Hp) (ρ : Env) (out : Out) (ρ' : Env), Inv X pins σ H s → Rel X.K A G F H σ ρ → evSs cs is ρ = some (out, ρ') →
    wpAny (model X.prog X.w) X.A (execs st X.env) (L2.SP X pins (EndS X.K A G F out ρ')) X.xe s
section
variable {X : Cx} {A : List (Nat × Addr)} {G : Hp} {cs : CS} {pins : List (Addr × Obj)} {s : Shared} {σ : L2.St} {H F : Hp} {ρ ρ' : Env} {o : Ov} {tg : Expr}
def tEvS (K : Frag) (A : List (Nat × Addr)) (G : Hp) (cs : CS) (is : IS) : TS := fun D σ H => ∃ F ρ out ρ', Rel K A G F H σ ρ ∧ evS cs is ρ = some (out, ρ') ∧ EndLe (EndS K A G F out ρ') D
theorem SS.ps {st : Stmt} {is : IS} (h : SS X A G cs st is) : PS X st (tEvS X.K A G cs is) := ⟨fun pins s σ H D I ⟨F, ρ, out, ρ', R, e, l⟩ => thn (h.run pins s σ H F ρ out ρ' I R e) fun _ _ q => sp_le q l⟩
def tEvSs (K : Frag) (A : List (Nat × Addr)) (G : Hp) (cs : CS) (is : ISs) : TS := fun D σ H => ∃ F ρ out ρ', Rel K A G F H σ ρ ∧ evSs cs is ρ = some (out, ρ') ∧ EndLe (EndS K A G F out ρ') D
theorem SB'.pss {st : List Stmt} {is : ISs} (h : SB' X A G cs st is) : PSs X st (tEvSs X.K A G cs is) := ⟨fun pins s σ H D I ⟨F, ρ, out, ρ', R, e, l⟩ => thn (h.run pins s σ H F ρ out ρ' I R e) fun _ _ q => sp_le q l⟩
/-! ### blocks -/
theorem sb_nil : SB' X A G cs [] .nil := ⟨fun pins s σ H F ρ out ρ' I R e => by
  cases e
  exact wpAny_execs_nil ⟨σ, H, I, rfl, F, .refl, R⟩⟩
theorem sb_cons {st : Stmt} {sts : List Stmt} {is : IS} {iss : ISs} (h1 : SS X A G cs st is) (h2 : SB' X A G cs sts iss) : SB' X A G cs (st :: sts) (.cons is iss) := by
  refine ⟨fun pins s σ H F ρ out ρ' I R e => ?_⟩
  unfold evSs at e
  obtain ⟨⟨o1, ρ1⟩, e1, e⟩ := Option.bind_eq_some_iff.mp e
  refine wpAny_execs_cons (thn (h1.run pins s σ H F ρ o1 ρ1 I R e1) fun f s1 q => ?_)
  cases f with
  | next =>
    obtain ⟨σ1, H1, I1, z, F1, x1, R1⟩ := q
    cases z
    exact thn (h2.run pins s1 σ1 H1 F1 ρ1 out ρ' I1 R1 e) fun _ _ q => sp_le q (endS_ext x1)
  | brk =>
    obtain ⟨σ1, H1, I1, z, F1, x1, R1⟩ := q
    cases z; cases e
    exact ⟨σ1, H1, I1, rfl, F1, x1, R1⟩
  | cont =>
    obtain ⟨σ1, H1, I1, z, F1, x1, R1⟩ := q
    cases z; cases e
    exact ⟨σ1, H1, I1, rfl, F1, x1, R1⟩
  | ret u =>
    obtain ⟨v, σ1, H1, I1, r, o, σ2, F1, z, x1, R1, d⟩ := q
    cases z; cases e
    exact ⟨v, σ1, H1, I1, r, o, σ2, F1, rfl, x1, R1, d⟩
/-! ### small ones -/
theorem ss_nope {st : Stmt} : SS X A G cs st .nope := ⟨fun pins s σ H F ρ out ρ' I R e => by cases e⟩
theorem store_post {v : V} {H1 : Hp} {i : Nat} {ρ1 : Env} (hA : ∀ p ∈ A, p.1 ≠ i) (p : Post X.K A G F σ ρ1 o v H1) : (EndS X.K A G F .next (setE ρ1 i o)).nx (σ.set i (some v)) H1 := by
  obtain ⟨F1, x1, R1, d⟩ := p
  cases o with
  | imm d' => exact ⟨rfl, F1, x1, R1.store d hA⟩
  | own xs =>
    obtain ⟨a, rfl, o, n⟩ := d
    exact ⟨rfl, F1, x1, R1.storeO o n hA⟩
theorem ss_set {i : Nat} {x : Str} {e : Expr} {ie : IE} {pos pos' : Pos} (hN : X.N.Nodup) (hA : ∀ p ∈ A, p.1 ≠ i) (he : SE X A G cs e ie) (hi : X.N[i]? = some x := by rfl) (hx : Loc X.env.scope x := by first | exact Or.inl rfl | exact Or.inr rfl)
    (hs : swapsWith e (some (.Name x pos')) pos.line X.env = pure false := by rfl) (hf : X.fn x = true ∨ X.env.scope.names.lookup x = some .local := by first | exact .inl rfl | exact .inr rfl | assumption) : SS X A G cs (.Assign [.Name x pos'] e pos) (.set i ie) := by
  refine ⟨fun pins s σ H F ρ out ρ' I R h => ?_⟩
  unfold evS at h
  obtain ⟨⟨o1, ρ1⟩, e1, h⟩ := Option.map_eq_some_iff.mp h
  cases h
  exact (ps_set hN hi hx he.pe hs hf).run pins s σ H _ I ⟨F, ρ, o1, ρ1, R, e1, fun v H1 _ p => store_post hA p⟩
/-- name = [..] on one line -/
theorem ss_setLc {i : Nat} {y : Str} {py : Pos} {elt iter : Expr} {ifs : List Expr} {scope : Scope} {own : List (Str × Nat)} {pos spos : Pos} {ig : IG} {it : IT} {ie : IE} (hc : X.calm = true) (hN : X.N.Nodup) (hA' : ∀ p ∈ A, p.1 ≠ i) (hi : SG X A G cs tg iter ig) (ok : BlkOk X.N X.env.scope scope own) (hA : ∀ p ∈ A, p.1 ∉ own.map (·.2))
    (hg : ∀ (s : Shared) (H : Hp) (C : Addr) (cl : List (Str × Addr)) (fp : List Addr), SP' (X.blk s H scope (compEnvC scope cl C X.env) fp) A tg (own.map (·.2)))
    (ht : ∀ (G : Hp) (s : Shared) (H : Hp) (C : Addr) (cl : List (Str × Addr)) (fp : List Addr), STs (X.blk s H scope (compEnvC scope cl C X.env) fp) A G cs ifs it)
    (he : ∀ (G : Hp) (s : Shared) (H : Hp) (C : Addr) (cl : List (Str × Addr)) (fp : List Addr), SE (X.blk s H scope (compEnvC scope cl C X.env) fp) A G cs elt ie)
    (hsw : swapsWith (.ListComp elt [⟨tg, iter, ifs, 0⟩] scope pos) (some (.Name y py)) spos.line X.env = pure true) (hy : X.N[i]? = some y := by rfl) (hyl : X.env.scope.names.lookup y = some .local := by rfl) (hs : ∀ x, foldedSetIterable iter X.env x = pure x := by intro _; rfl) :
    SS X A G cs (.Assign [.Name y py] (.ListComp elt [⟨tg, iter, ifs, 0⟩] scope pos) spos) (.set i (.lc (own.map (·.2)) ig it ie)) := by
  refine ⟨fun pins s σ H F ρ out ρ' I R h => ?_⟩
  unfold evS at h
  obtain ⟨⟨o1, ρ1⟩, e1, h⟩ := Option.map_eq_some_iff.mp h
  cases h
  refine (ps_setLc (g := gPat X.K A (own.map (·.2))) (te := tEvX X.K A cs ie) (tt := tEvTX X.K A cs it) hc hN hy hyl hsw hi ok (fun s H C cl fp => (hg s H C cl fp).pg) (fun s H C cl fp => ⟨fun pins s' σ H Q I ⟨G', q⟩ => (ht G' s _ C cl fp).pts.run pins s' σ H Q I q⟩)
    (fun s H C cl fp => ⟨fun pins s' σ H Q I ⟨G', q⟩ => (he G' s _ C cl fp).pe.run pins s' σ H Q I q⟩) hs).run pins s σ H _ I ?_
  exact lc_read R e1 hA fun v H1 p => store_post hA' p
theorem ss_unp {e : Expr} {ie : IE} {i j : Nat} {is : List Nat} {pos : Pos} (he : SE X A G cs e ie) (hp : SP' X A tg (i :: j :: is)) (hs : swapsWithSole [tg] e pos.line X.env = pure false := by rfl) (hw : swappedStores [tg] e X.env = pure none := by rfl)
    (h1 : (assignEach [tg] X.env).map (·.2) = [assign tg X.env] := by rfl) : SS X A G cs (.Assign [tg] e pos) (.unp (i :: j :: is) ie) := by
  refine ⟨fun pins s σ H F ρ out ρ' I R h => ?_⟩
  unfold evS at h
  obtain ⟨⟨o1, ρ1⟩, e1, h⟩ := Option.bind_eq_some_iff.mp h
  refine (ps_asg he.pe hp.pg hs hw h1).run pins s σ H _ I ⟨F, ρ, o1, ρ1, R, e1, fun v H1 _ p => ?_⟩
  obtain ⟨F1, x1, R1, d1⟩ := p.toD
  dsimp only at h d1
  split at h
  · rename_i ds w
    obtain ⟨ρ2, e2, h⟩ := Option.map_eq_some_iff.mp h
    cases h
    exact ⟨G, F1, ρ1, o1.d, _, R1, d1, by rw [w]; exact e2, fun σ' R' _ _ => ⟨rfl, F1, x1, R'⟩⟩
  · cases h
/-- a, b = x, y of two plain local names -/
theorem ss_par {i j : Nat} {x y : Str} {a b : Expr} {ies : IEs} {px py pt : Pos} {kt k2 pt2} {pos : Pos} (hc : X.calm = true) (hN : X.N.Nodup) (hij : i ≠ j) (hA : ∀ p ∈ A, p.1 ≠ i) (hA2 : ∀ p ∈ A, p.1 ≠ j) (ha : SA X A G cs [a, b] ies) (hi : X.N[i]? = some x := by rfl) (hj : X.N[j]? = some y := by rfl)
    (hx : X.env.scope.names.lookup x = some .local := by rfl) (hy : X.env.scope.names.lookup y = some .local := by rfl) (hw : swappedStores [.Tuple [.Name x px, .Name y py] kt pt] (.Tuple [a, b] k2 pt2) X.env = pure (some [x, y]) := by rfl)
    (hs : swapsWithSole [.Tuple [.Name x px, .Name y py] kt pt] (.Tuple [a, b] k2 pt2) pos.line X.env = pure false := by rfl) : SS X A G cs (.Assign [.Tuple [.Name x px, .Name y py] kt pt] (.Tuple [a, b] k2 pt2) pos) (.par [i, j] ies) := by
  refine ⟨fun pins s σ H F ρ out ρ' I R h => ?_⟩
  unfold evS at h
  obtain ⟨⟨as, ρ1⟩, e1, h⟩ := Option.bind_eq_some_iff.mp h
  obtain ⟨ds, e2, h⟩ := Option.bind_eq_some_iff.mp h
  obtain ⟨ρ2, e3, h⟩ := Option.map_eq_some_iff.mp h
  cases h
  refine (ps_par hc hN hi hj hij hx hy ha.pa hw hs).run pins s σ H _ I ⟨F, ρ, as, ρ1, R, e1, fun vs H1 _ ⟨F1, x1, R1, av⟩ => ?_⟩
  have dv := av.asD e2
  match ds, dv, e3 with
  | [], _, e3 => cases e3
  | [_], _, e3 => cases e3
  | _ :: _ :: _ :: _, _, e3 => cases e3
  | [d1, d2], .cons (v := v) h1 (.cons (v := w) h2 .nil), e3 =>
    cases e3
    exact ⟨v, w, rfl, rfl, F1, x1, (R1.store h1 hA).store h2 hA2⟩
theorem ss_put {i : Nat} {x : Str} {p tp pos : Pos} {b e : Expr} {ib ie : IE} (he : SE X A G cs e ie) (hb : SE X A G cs b ib) (hN : X.N[i]? = some x := by rfl) (hvi : Vis X.env.scope x := by first | exact Or.inl rfl | exact Or.inr (Or.inl rfl) | exact Or.inr (Or.inr rfl))
    (hd : (x == ("__debug__" : Str)) = false := by decide) (hcd : (x == ("__classdict__" : Str)) = false := by decide)
    (ha : ∀ v, assign (.Subscript (.Name x p) b tp) X.env v = (do
      let ov ← holding [v] (eval (.Name x p) X.env)
      let iv ← holding [v, ov] (eval b X.env)
      standAt tp
      holding [v, ov, iv] (setItem ov iv v)
      release [v, ov, iv] []) := by intro _; rfl)
    (hs : swapsWithSole [.Subscript (.Name x p) b tp] e pos.line X.env = pure false := by rfl) (hw : swappedStores [.Subscript (.Name x p) b tp] e X.env = pure none := by rfl)
    (h1 : (assignEach [.Subscript (.Name x p) b tp] X.env).map (·.2) = [assign (.Subscript (.Name x p) b tp) X.env] := by rfl) : SS X A G cs (.Assign [.Subscript (.Name x p) b tp] e pos) (.put i ib ie) := by
  refine ⟨fun pins s σ H F ρ out ρ' I R h => ?_⟩
  unfold evS at h
  obtain ⟨⟨o1, ρ1⟩, e1, h⟩ := Option.bind_eq_some_iff.mp h
  obtain ⟨o0, e0, h⟩ := Option.bind_eq_some_iff.mp h
  obtain ⟨⟨o2, ρ2⟩, e2, h⟩ := Option.bind_eq_some_iff.mp h
  obtain ⟨k, e3, h⟩ := Option.bind_eq_some_iff.mp h
  split at h
  · rename_i xs e4
    obtain ⟨j, e5, h⟩ := Option.map_eq_some_iff.mp h
    cases h
    refine (ps_asg he.pe (pg_sub (pe_var hN hvi hd hcd) hb.pe set_list ha) hs hw h1).run pins s σ H _ I ⟨F, ρ, o1, ρ1, R, e1, fun v H1 _ pp => ?_⟩
    obtain ⟨F1, x1, R1, d1⟩ := pp.toD
    obtain ⟨v0, h0, _⟩ := R1.pk e0
    refine ⟨v0, h0, F1, ρ1, o2, ρ2, R1, e2, fun v2 H2 _ p2 => ?_⟩
    obtain ⟨F2, x2, R2, d2⟩ := p2.toD
    rw [intOf_some e3] at d2
    cases d2
    obtain ⟨a, vs, h0', h1', dv⟩ := slot_own R2 e4
    rw [h0] at h0'
    cases h0'
    exact ⟨a, vs, k, j, rfl, rfl, h1', by rw [dv.len]; exact e5, rfl, F2, x1.trans x2, R2.write e4 h0 h1' (dv.set (d1.mono x2.le) j)⟩
  · cases h
theorem ss_app {i : Nat} {y : Str} {b : Expr} {ib : IE} {p apos cpos pos : Pos} (hb : SE X A G cs b ib) (hN : X.N[i]? = some y := by rfl) (hvi : Vis X.env.scope y := by first | exact Or.inl rfl | exact Or.inr (Or.inl rfl) | exact Or.inr (Or.inr rfl)) (hd : (y == ("__debug__" : Str)) = false := by decide)
    (hcd : (y == ("__classdict__" : Str)) = false := by decide) (hbase : attributeBase (.Name y p) "append" X.env (eval (.Name y p) X.env) = eval (.Name y p) X.env := by rfl)
    (hfew : ((backTo cpos (starEach [b] X.env)).all (fun x => !x.1) && (backToKw cpos (keywordEach [] X.env)).all (fun x => x.1.isSome) && decide ([b].length + ([] : List Keyword).length + (if ([] : List Keyword).isEmpty then 0 else 1) < 30)) = true := by rfl)
    (hline : (apos.endLine == cpos.line) = true := by rfl) (hs : starEach [b] X.env = (false, eval b X.env) :: starEach [] X.env := by rfl) (hplain : (backTo cpos (starEach [] X.env)).any (·.1) = false := by rfl)
    (hsw : swapsWith (.Call (.Attribute (.Name y p) "append" apos) [b] [] cpos) none pos.line X.env = pure false := by rfl) : SS X A G cs (.Expr (.Call (.Attribute (.Name y p) "append" apos) [b] [] cpos) pos) (.app i ib) := by
  refine ⟨fun pins s σ H F ρ out ρ' I R e => ?_⟩
  unfold evS at e
  obtain ⟨xs0, e0, e⟩ := Option.bind_eq_some_iff.mp e
  obtain ⟨⟨o1, ρ1⟩, e1, e⟩ := Option.bind_eq_some_iff.mp e
  split at e
  · rename_i xs e3
    split at e
    · rename_i hk
      cases e
      obtain ⟨a, vs0, h0, h1, _⟩ := slot_own R (ownE_some e0)
      refine (ps_expr (pe_bm PySem.F.plainAttrs_list PySem.F.slot_list_append PySem.F.type_list_append mt_append (pe_var hN hvi hd hcd) (pa_cons hb.pe pa_nil hs) hbase hfew hline hs hplain) hsw).run pins s σ H _ I ⟨_, h0, .inl ⟨rfl, _, SqL.of h1⟩, F, ρ, o1, ρ1, R, e1, fun v H1 _ pp => ?_⟩
      obtain ⟨F1, x1, R1, d1⟩ := pp.toD
      obtain ⟨a', vs, h0', h1', dv⟩ := slot_own R1 e3
      rw [h0] at h0'
      cases h0'
      exact ⟨a, vs, v, rfl, rfl, h1', by rw [dv.len, ← ll_eq]; exact hk, rfl, F1, x1, R1.write e3 h0 h1' (dv.app (.one d1))⟩
    · cases e
  · cases e
theorem ss_ex {e : Expr} {ie : IE} {pos : Pos} (he : SE X A G cs e ie) (hs : swapsWith e none pos.line X.env = pure false := by rfl) : SS X A G cs (.Expr e pos) (.ex ie) := by
  refine ⟨fun pins s σ H F ρ out ρ' I R h => ?_⟩
  unfold evS at h
  obtain ⟨⟨o1, ρ1⟩, e1, h⟩ := Option.map_eq_some_iff.mp h
  cases h
  refine (ps_expr he.pe hs).run pins s σ H _ I ⟨F, ρ, o1, ρ1, R, e1, fun v H1 _ p => ?_⟩
  obtain ⟨F1, x1, R1, d1⟩ := p.toD
  exact ⟨rfl, F1, x1, R1⟩
theorem ss_aug {i : Nat} {x : Str} {e : Expr} {ie : IE} {op : Operator} {bop : BOp} {f : Int → Int → Int} {pos pos' : Pos} (hop : (bop = .add ∧ op = .Add) ∨ (bop = .sub ∧ op = .Sub)) (hN : X.N.Nodup) (hA : ∀ p ∈ A, p.1 ≠ i) (he : SE X A G cs e ie) (hi : X.N[i]? = some x := by rfl) (hx : Loc X.env.scope x := by first | exact Or.inl rfl | exact Or.inr rfl)
    (hf : X.fn x = true ∨ X.env.scope.names.lookup x = some .local := by first | exact .inl rfl | exact .inr rfl | assumption) : SS X A G cs (.AugAssign (.Name x pos') op e pos) (.aug i bop ie) := by
  refine ⟨fun pins s σ H F ρ out ρ' I R h => ?_⟩
  unfold evS at h
  obtain ⟨o0, e0, h⟩ := Option.bind_eq_some_iff.mp h
  obtain ⟨k0, e4, h⟩ := Option.bind_eq_some_iff.mp h
  obtain ⟨⟨o1, ρ1⟩, e1, h⟩ := Option.bind_eq_some_iff.mp h
  obtain ⟨k1, e2, h⟩ := Option.bind_eq_some_iff.mp h
  obtain ⟨k2, e3, h⟩ := Option.map_eq_some_iff.mp h
  cases h
  obtain ⟨v0, h0, pk⟩ := R.pk e0
  rw [intOf_some e4] at pk
  cases pk.imm (fun xs q => by cases q)
  rcases hop with ⟨rfl, rfl⟩ | ⟨rfl, rfl⟩
  · cases e3
    refine (ps_aug hN hi hx he.pe ip_add hf).run pins s σ H _ I ⟨_, h0, F, ρ, o1, ρ1, R, e1, fun v H1 _ p => ?_⟩
    obtain ⟨F1, x1, R1, d1⟩ := p.toD
    rw [intOf_some e2] at d1
    cases d1
    exact ⟨_, _, rfl, rfl, rfl, F1, x1, R1.store (.int _) hA⟩
  · cases e3
    refine (ps_aug hN hi hx he.pe ip_sub hf).run pins s σ H _ I ⟨_, h0, F, ρ, o1, ρ1, R, e1, fun v H1 _ p => ?_⟩
    obtain ⟨F1, x1, R1, d1⟩ := p.toD
    rw [intOf_some e2] at d1
    cases d1
    exact ⟨_, _, rfl, rfl, rfl, F1, x1, R1.store (.int _) hA⟩
theorem ss_ret {e : Expr} {ie : IE} {pos : Pos} (he : SE X A G cs e ie) : SS X A G cs (.Return (some e) pos) (.ret ie) := by
  refine ⟨fun pins s σ H F ρ out ρ' I R h => ?_⟩
  unfold evS at h
  obtain ⟨⟨o1, ρ1⟩, e1, h⟩ := Option.map_eq_some_iff.mp h
  cases h
  exact (ps_ret he.pe).run pins s σ H _ I ⟨F, ρ, o1, _, R, e1, fun v H1 _ ⟨F1, x1, R1, d1⟩ => ⟨o1, σ, F1, rfl, x1, R1, d1⟩⟩
theorem ss_retv {i : Nat} {y : Str} {p pos : Pos} (hN : X.N[i]? = some y := by rfl) (hvi : Vis X.env.scope y := by first | exact Or.inl rfl | exact Or.inr (Or.inl rfl) | exact Or.inr (Or.inr rfl)) (hd : (y == ("__debug__" : Str)) = false := by decide)
    (hcd : (y == ("__classdict__" : Str)) = false := by decide) : SS X A G cs (.Return (some (.Name y p)) pos) (.retv i) := by
  refine ⟨fun pins s σ H F ρ out ρ' I R h => ?_⟩
  unfold evS at h
  obtain ⟨o1, e1, h⟩ := Option.map_eq_some_iff.mp h
  cases h
  cases o1 with
  | imm d =>
    obtain ⟨v, h0, dn⟩ := R.imm i d e1
    exact (ps_ret (pe_var hN hvi hd hcd)).run pins s σ H _ I ⟨v, h0, _, σ, F, rfl, .refl, R.clr i, dn⟩
  | own xs =>
    obtain ⟨a, h0, o⟩ := R.own i xs e1
    refine (ps_ret (pe_var hN hvi hd hcd)).run pins s σ H _ I ⟨_, h0, _, σ, F, rfl, .refl, R.clr i, a, rfl, o, fun j ys h e => ?_⟩
    rw [getE_clr] at h
    split at h
    · cases h
    · rename_i z
      exact z (R.dis i j xs ys a e1 h h0 e)
theorem ss_retN {pos : Pos} : SS X A G cs (.Return none pos) .retN := ⟨fun pins s σ H F ρ out ρ' I R h => by
  cases h
  exact ps_retN.run pins s σ H _ I ⟨_, σ, F, rfl, .refl, R, .non⟩⟩
theorem ss_pass {pos : Pos} : SS X A G cs (.Pass pos) .pass := ⟨fun pins s σ H F ρ out ρ' I R h => by
  cases h
  exact ps_pass.run pins s σ H _ I ⟨rfl, F, .refl, R⟩⟩
theorem ss_brk {pos : Pos} : SS X A G cs (.Break pos) .brk := ⟨fun pins s σ H F ρ out ρ' I R h => by
  cases h
  exact ps_break.run pins s σ H _ I ⟨rfl, F, .refl, R⟩⟩
theorem ss_cont {pos : Pos} : SS X A G cs (.Continue pos) .cont := ⟨fun pins s σ H F ρ out ρ' I R h => by
  cases h
  exact ps_continue.run pins s σ H _ I ⟨rfl, F, .refl, R⟩⟩
theorem ss_if {c : Expr} {a b : List Stmt} {it : IT} {ia ib : ISs} {pos : Pos} (hc : ST X A G cs c it) (ha : SB' X A G cs a ia) (hb : SB' X A G cs b ib) : SS X A G cs (.If c a b pos) (.ite it ia ib) := by
  refine ⟨fun pins s σ H F ρ out ρ' I R e => ?_⟩
  unfold evS at e
  obtain ⟨⟨k, ρ1⟩, e1, e⟩ := Option.bind_eq_some_iff.mp e
  refine wpAny_If (thn (hc.run pins s σ H F ρ k ρ1 I R e1) fun d s1 ⟨H1, I1, q, F1, x1, R1⟩ => ?_)
  subst q
  cases d with
  | true => exact thn (ha.run pins s1 σ H1 F1 ρ1 out ρ' I1 R1 e) fun _ _ q => sp_le q (endS_ext x1)
  | false => exact thn (hb.run pins s1 σ H1 F1 ρ1 out ρ' I1 R1 e) fun _ _ q => sp_le q (endS_ext x1)
/-! ### loops -/
theorem ss_for {iter : Expr} {body : List Stmt} {is : List Nat} {ig : IG} {ib : ISs} {pos : Pos} (hp : PassesOwn (model X.prog X.w) X.A X.env X.xe) (hc : X.calm = true) (hi : SG X A G cs tg iter ig) (hg : SP' X A tg is) (hb : SB' X A G cs body ib)
    (hs : ∀ x, foldedSetIterable iter X.env x = pure x := by intro _; rfl) : SS X A G cs (.For tg iter body [] pos) (.loop is ig ib) := by
  refine ⟨fun pins s σ H F ρ out ρ' I R e => ?_⟩
  unfold evS at e
  obtain ⟨⟨ds, ρ1⟩, eG, e⟩ := Option.bind_eq_some_iff.mp e
  refine (ps_for hp hc hi hg.pg hb.pss hs).run pins s σ H _ I ⟨F, ρ, ds, ρ1, R, eG, fun J F1 H1 x1 R1 feed _ => ?_⟩
  refine ⟨fun i m σ H => m + i = ds.length ∧ ∃ F2 ρ2, Ext G F1 F2 ∧ Rel X.K A G F2 H σ ρ2 ∧ goFor is (evSs cs ib) (ds.drop i) ρ2 = some (out, ρ'), ⟨ds.length, by simp, F1, ρ1, .refl, R1, by simpa using e⟩, ?_⟩
  rintro i m σ2 H2 ⟨hm, F2, ρ2, x2, R2, eR⟩
  have hsub : Same F1 H2 := x2.le.trans R2.sub
  by_cases hi : i < ds.length
  · refine .inr ⟨feed.go i H2 (.of hsub) hi, _, fun σ' H' hW => ⟨m - 1, by omega, hW⟩, fun x H3 y => ?_⟩
    have yl := (feed.yld i H2 x H3 (.of hsub) y _ (List.getElem?_eq_getElem hi)).mono x2.le
    rw [List.drop_eq_getElem_cons hi] at eR
    unfold goFor at eR
    obtain ⟨ρ3, eB, eR⟩ := Option.bind_eq_some_iff.mp eR
    obtain ⟨⟨o1, ρ4⟩, eS, eR⟩ := Option.bind_eq_some_iff.mp eR
    obtain ⟨F3, x3, R3, dn3, s3⟩ := yl_ok R2 yl
    refine ⟨G, F3, ρ2, _, ρ3, R3, dn3, eB, fun σ3 R4 _ _ => ⟨F3, ρ3, o1, ρ4, R4, eS, fun σ' H' ⟨z, F5, x5, R5⟩ => ?_, fun v H' ⟨o, σ', F5, z, x5, R5, d5⟩ => ?_, fun σ' H' ⟨z, F5, x5, R5⟩ => ?_, fun σ' H' ⟨z, F5, x5, R5⟩ => ?_⟩⟩
    · cases z
      exact ⟨by omega, F5, ρ4, x2.trans (x3.trans x5), R5, eR⟩
    · cases z
      cases eR
      exact ⟨o, σ', F5, rfl, x1.trans (x2.trans (x3.trans x5)), R5, d5⟩
    · cases z
      cases eR
      exact ⟨rfl, F5, x1.trans (x2.trans (x3.trans x5)), R5⟩
    · cases z
      exact ⟨by omega, F5, ρ4, x2.trans (x3.trans x5), R5, eR⟩
  · rw [List.drop_eq_nil_of_le (by omega)] at eR
    cases eR
    exact .inl ⟨feed.stop i H2 (.of hsub) (by omega), rfl, F2, x1.trans x2, R2⟩
def whlF (test : Env → Option (Bool × Env)) (body : Env → Option (Out × Env)) : Nat → Env → Option (Out × Env)
  | 0, _ => none
  | n + 1, ρ => (test ρ).bind fun p => if p.1 = true then (body p.2).bind fun q => match q.1 with
      | .next => whlF test body n q.2
      | .cont => whlF test body n q.2
      | .brk => some (.next, q.2)
      | .ret v => some (.ret v, q.2)
    else some (.next, p.2)
theorem whl_fuel {test : Env → Option (Bool × Env)} {body : Env → Option (Out × Env)} {ρ : Env} {r : Out × Env} (h : whl test body ρ = some r) : ∃ n, whlF test body n ρ = some r := by
  refine whl.partial_correctness test body (fun ρ r => ∃ n, whlF test body n ρ = some r) (fun f ih ρ r h => ?_) ρ r h
  obtain ⟨⟨b, ρ1⟩, e1, h⟩ := Option.bind_eq_some_iff.mp h
  cases b with
  | false =>
    cases h
    exact ⟨1, by unfold whlF; rw [e1]; rfl⟩
  | true =>
    obtain ⟨⟨q, ρ2⟩, e2, h⟩ := Option.bind_eq_some_iff.mp h
    cases q with
    | next =>
      obtain ⟨n, hn⟩ := ih ρ2 r h
      exact ⟨n + 1, by unfold whlF; rw [e1]; show (body ρ1).bind _ = _; rw [e2]; exact hn⟩
    | cont =>
      obtain ⟨n, hn⟩ := ih ρ2 r h
      exact ⟨n + 1, by unfold whlF; rw [e1]; show (body ρ1).bind _ = _; rw [e2]; exact hn⟩
    | brk =>
      cases h
      exact ⟨1, by unfold whlF; rw [e1]; show (body ρ1).bind _ = _; rw [e2]; rfl⟩
    | ret v =>
      cases h
      exact ⟨1, by unfold whlF; rw [e1]; show (body ρ1).bind _ = _; rw [e2]; rfl⟩
theorem ss_whl {c : Expr} {body : List Stmt} {it : IT} {ib : ISs} {pos : Pos} (hp : PassesOwn (model X.prog X.w) X.A X.env X.xe) (hc : ST X A G cs c it) (hb : SB' X A G cs body ib) : SS X A G cs (.While c body [] pos) (.whl it ib) := by
  refine ⟨fun pins s σ H F ρ out ρ' I R e => ?_⟩
  unfold evS at e
  obtain ⟨n, e⟩ := whl_fuel e
  refine (ps_while hp hc.pt hb.pss).run pins s σ H _ I ⟨fun m σ H => ∃ F2 ρ2, Ext G F F2 ∧ Rel X.K A G F2 H σ ρ2 ∧ whlF (evT cs it) (evSs cs ib) m ρ2 = some (out, ρ'), ⟨n, F, ρ, .refl, R, e⟩, ?_⟩
  rintro m σ2 H2 ⟨F2, ρ2, x2, R2, eR⟩
  cases m with
  | zero => cases eR
  | succ m =>
    unfold whlF at eR
    obtain ⟨⟨b, ρ3⟩, e1, eR⟩ := Option.bind_eq_some_iff.mp eR
    refine ⟨F2, ρ2, b, ρ3, R2, e1, fun F3 H3 x3 R3 => ?_⟩
    cases b with
    | false =>
      cases eR
      exact L2.iteF ⟨rfl, F3, x2.trans x3, R3⟩
    | true =>
      obtain ⟨⟨o1, ρ4⟩, e2, eR⟩ := Option.bind_eq_some_iff.mp (show (evSs cs ib ρ3).bind _ = _ from eR)
      refine L2.iteT ⟨_, fun σ' H' hW => ⟨m, Nat.lt_succ_self m, hW⟩, F3, ρ3, o1, ρ4, R3, e2, fun σ' H' ⟨z, F5, x5, R5⟩ => ?_, fun v H' ⟨o, σ', F5, z, x5, R5, d5⟩ => ?_, fun σ' H' ⟨z, F5, x5, R5⟩ => ?_, fun σ' H' ⟨z, F5, x5, R5⟩ => ?_⟩
      · cases z
        exact ⟨F5, ρ4, x2.trans (x3.trans x5), R5, eR⟩
      · cases z
        cases eR
        exact ⟨o, σ', F5, rfl, x2.trans (x3.trans x5), R5, d5⟩
      · cases z
        cases eR
        exact ⟨rfl, F5, x2.trans (x3.trans x5), R5⟩
      · cases z
        exact ⟨F5, ρ4, x2.trans (x3.trans x5), R5, eR⟩
end
end Ev
set_option Elab.async false
set_option linter.all false
set_option maxRecDepth 100000
/-! Ev12: a def keeps its promise. -/
namespace Ev
open PySem PySem.Spec PyProof.Rows L2 RT RZ
theorem outs_some : ∀ {is : List Nat} {ρ : Env} {l : List (List PyData)}, outs is ρ = some l → ∀ i ∈ is, ∃ xs, getE ρ i = some (.own xs)
  | [], _, _, _ => fun i h => by cases h
  | i :: is, ρ, l, h => by
    unfold outs at h
    split at h
    · rename_i xs w
      obtain ⟨l', e, rfl⟩ := Option.map_eq_some_iff.mp h
      intro j hj
      rcases List.mem_cons.mp hj with rfl | hj
      · exact ⟨xs, w⟩
      · exact outs_some e j hj
    · cases h
section
variable {K : Frag} {A : List (Nat × Addr)} {G F H : Hp} {σ : L2.St} {ρ : Env}
theorem refs_own : ∀ {vs : List V} {os : List Ov} {k : Nat}, ArgO K F H vs os → (∀ i v, vs[i]? = some v → σ[k + i]? = some (some v)) → RefsAt σ (ownsF k os) (ows vs os)
  | _, _, _, .nil, _ => .nil
  | v :: vs, _ :: os, k, .imm (d := d) _ q, h => by
    have e : ows (v :: vs) (.imm d :: os) = ows vs os := by cases v <;> rfl
    rw [e]
    exact refs_own q fun i w hi => by
      have := h (i + 1) w (by simpa using hi)
      rw [show k + 1 + i = k + (i + 1) by omega]
      exact this
  | _ :: vs, _ :: os, k, .own (a := a) _ _ _ q, h => by
    refine .cons (by simpa using h 0 (.ref a) rfl) (refs_own q fun i w hi => ?_)
    have := h (i + 1) w (by simpa using hi)
    rw [show k + 1 + i = k + (i + 1) by omega]
    exact this
theorem refs_inj : ∀ {xs : List Nat} {as : List Addr}, RefsAt σ xs as → as.Nodup → ∀ x ∈ xs, ∀ y ∈ xs, ∀ a, σ[x]? = some (some (.ref a)) → σ[y]? = some (some (.ref a)) → x = y
  | _, _, .nil, _, x, hx, _, _, _, _, _ => by cases hx
  | _, _, .cons (x := z) (a := b) h q, n, x, hx, y, hy, a, e1, e2 => by
    obtain ⟨n1, n2⟩ := List.nodup_cons.mp n
    rcases List.mem_cons.mp hx with rfl | hx
    · rcases List.mem_cons.mp hy with rfl | hy
      · rfl
      · rw [h] at e1
        cases e1
        obtain ⟨a', h1, h2⟩ := (refs_mem q).1 y hy
        rw [e2] at h2; cases h2
        exact absurd h1 n1
    · rcases List.mem_cons.mp hy with ey | hy
      · subst ey
        rw [h] at e2
        cases e2
        obtain ⟨a', h1, h2⟩ := (refs_mem q).1 x (by assumption)
        rw [e1] at h2; cases h2
        exact absurd h1 n1
      · exact refs_inj q n2 x hx y hy a e1 e2
theorem ownsF_mem : ∀ {os : List Ov} {k i : Nat} {xs : List PyData}, os[i]? = some (.own xs) → k + i ∈ ownsF k os
  | [], _, _, _, h => by simp at h
  | .own _ :: os, k, 0, _, _ => by simp [ownsF]
  | .imm _ :: os, k, 0, _, h => by simp at h
  | .own _ :: os, k, i + 1, xs, h => by
    unfold ownsF
    have := ownsF_mem (os := os) (k := k + 1) (i := i) (xs := xs) (by simpa using h)
    rw [show k + 1 + i = k + (i + 1) by omega] at this
    exact List.mem_cons_of_mem _ this
  | .imm _ :: os, k, i + 1, xs, h => by
    unfold ownsF
    have := ownsF_mem (os := os) (k := k + 1) (i := i) (xs := xs) (by simpa using h)
    rw [show k + 1 + i = k + (i + 1) by omega] at this
    exact this
theorem ArgO.len : ∀ {vs : List V} {os : List Ov}, ArgO K F H vs os → vs.length = os.length
  | _, _, .nil => rfl
  | _, _, .imm _ q => by simp [q.len]
  | _, _, .own _ _ _ q => by simp [q.len]
theorem ArgO.get : ∀ {vs : List V} {os : List Ov} {i : Nat} {o : Ov}, ArgO K F H vs os → os[i]? = some o → ∃ v, vs[i]? = some v ∧ match o with
    | .imm d => Dn K F v d
    | .own xs => ∃ a ws, v = .ref a ∧ F a = none ∧ H a = some (.lst ws) ∧ DnA K F ws xs
  | _, _, i, _, .nil, e => by simp at e
  | _, _, 0, _, .imm h _, e => by simp at e; subst e; exact ⟨_, rfl, h⟩
  | _, _, 0, _, .own f h d _, e => by simp at e; subst e; exact ⟨_, rfl, _, _, rfl, f, h, d⟩
  | _, _, i + 1, o, .imm _ q, e => by
    obtain ⟨v, h1, h2⟩ := q.get (i := i) (o := o) (by simpa using e)
    exact ⟨v, by simpa using h1, h2⟩
  | _, _, i + 1, o, .own _ _ _ q, e => by
    obtain ⟨v, h1, h2⟩ := q.get (i := i) (o := o) (by simpa using e)
    exact ⟨v, by simpa using h1, h2⟩
theorem getE_start {d : FD} {os : List Ov} {i : Nat} : getE (start0 d os) i = os[i]? := by
  unfold getE start0
  by_cases h : i < os.length
  · rw [List.getElem?_append_left (by simpa using h), List.getElem?_map]
    cases os[i]? <;> rfl
  · rw [List.getElem?_append_right (by simpa using h), List.getElem?_eq_none (l := os) (by omega), List.getElem?_replicate]
    split <;> rfl
theorem start_get {N : List Str} {vs : List V} {i : Nat} {v : V} (h : vs[i]? = some v) : (L2.start N vs)[i]? = some (some v) := by
  unfold L2.start
  have hl := (List.getElem?_eq_some_iff.mp h).1
  rw [List.getElem?_append_left (by simpa using hl), List.getElem?_map, h]
  rfl
theorem out_ok : ∀ {is : List Nat} {as : List Addr} {l : List (List PyData)}, RefsAt σ is as → Rel K A G F H σ ρ → outs is ρ = some l → OutL K F H as l
  | _, _, _, .nil, _, e => by cases e; exact .nil
  | _, _, _, .cons (x := i) h q, R, e => by
    unfold outs at e
    split at e
    · rename_i xs w
      obtain ⟨l', e1, rfl⟩ := Option.map_eq_some_iff.mp e
      obtain ⟨a, h0, _, f, ws, h1, d⟩ := R.own i xs w
      rw [h] at h0; cases h0
      exact .cons f h1 d (out_ok q R e1)
    · cases e
theorem refs_zip {σ' : L2.St} : ∀ {is : List Nat} {as : List Addr}, RefsAt σ is as → (∀ p ∈ is.zip as, σ'[p.1]? = some (some (.ref p.2))) → RefsAt σ' is as
  | _, _, .nil, _ => .nil
  | x :: _, a :: _, .cons _ q, h => .cons (h (x, a) (by simp)) (refs_zip q fun p hp => h p (by simp [hp]))
end
section
variable {P : Program} {w : World} {K : Frag} {mg : Str → Option Value} {base : Heap}
theorem nA {A : List (Nat × Addr)} {io : List Nat} (h : ∀ p ∈ A, p.1 ∈ io) {i : Nat} (n : i ∉ io) : ∀ p ∈ A, p.1 ≠ i := fun p hp e => n (by rw [← e]; exact h p hp)
theorem nAs {A : List (Nat × Addr)} {io is : List Nat} (h : ∀ p ∈ A, p.1 ∈ io) (n : ∀ i ∈ is, i ∉ io) : ∀ p ∈ A, p.1 ∉ is := fun p hp e => n _ e (h p hp)
theorem fn_step {Φ : Nat → Option FX} {n f' : Nat} {d : FD} {N ps : List Str} {x qual : Str} {params : Arguments} {body : List Stmt} {scope : Scope} {f : Addr} {fd : FuncData} (Fu : FunD K x qual params body scope [] [] f fd) (S : FnScope N ps scope) (hΦ : Φ f' = some (.code d)) (hnp : ps.length = d.np) (hns : N.length = d.ns)
    (hb : ∀ (cdv : Value) (A : Around) (outer : List PySem.Env) (s : Shared) (H : Hp) (E : XK) (G : Hp) (Ap : List (Nat × Addr)), Room n (A.deeper (envOfC qual scope s.heap.objs.size f cdv)) → (∀ p ∈ Ap, p.1 ∈ d.io) →
      SB' (cxOf CX0 P w K mg base N qual scope f cdv A outer s H E).nox Ap G (callN Φ n) body d.body) : FnOk P w K mg base CX0 (n + 1) f fd ps (spF K (callN Φ (n + 1)) f' ps.length) := by
  refine Fu.ok S (fun vs H Q E h => ?_) (fun cdv A outer s H vs Q E hr h => ?_)
  · obtain ⟨_, _, _, _, _, _, _, h, _⟩ := h
    exact h
  · obtain ⟨F, os, o, l, hF, hA, nd, hlen, e, k⟩ := h
    unfold callN at e
    rw [hΦ] at e
    dsimp only at e
    split at e
    · rename_i hc
      obtain ⟨⟨out, ρ'⟩, e1, e2⟩ := Option.bind_eq_some_iff.mp e
      have hvo := hA.len
      have ra0 : RefsAt (L2.start N vs) (owns os) (ows vs os) := refs_own hA fun i v hi => by rw [Nat.zero_add]; exact start_get hi
      let G : Hp := fun b => if b ∈ ows vs os then none else H b
      have hG : ∀ b, b ∉ ows vs os → G b = H b := fun b hb => if_neg hb
      have hGo : ∀ b, b ∈ ows vs os → G b = none := fun b hb => if_pos hb
      -- the relation at the entry
      have R : Rel K ((owns os).zip (ows vs os)) G F H (L2.start N vs) (start0 d os) := by
        refine ⟨fun b x q => ?_, hF, fun i d' q => ?_, fun i xs q => ?_, fun i j xs ys a q1 q2 z1 z2 => ?_, fun p hp => ?_, ?_⟩
        · by_cases hb : b ∈ ows vs os
          · rw [hGo b hb] at q; cases q
          · rw [hG b hb] at q; exact q
        · rw [getE_start] at q
          obtain ⟨v, h1, h2⟩ := hA.get q
          exact ⟨v, start_get h1, h2⟩
        · rw [getE_start] at q
          obtain ⟨v, h1, a, ws, rfl, h2, h3, h4⟩ := hA.get q
          refine ⟨a, start_get h1, hGo a ?_, h2, ws, h3, h4⟩
          obtain ⟨b, hb, hs⟩ := (refs_mem ra0).1 i (by have := ownsF_mem (k := 0) q; rw [Nat.zero_add] at this; exact this)
          rw [start_get h1] at hs
          cases hs
          exact hb
        · rw [getE_start] at q1 q2
          have m1 : i ∈ owns os := by have := ownsF_mem (k := 0) q1; rw [Nat.zero_add] at this; exact this
          have m2 : j ∈ owns os := by have := ownsF_mem (k := 0) q2; rw [Nat.zero_add] at this; exact this
          exact refs_inj ra0 nd i m1 j m2 a z1 z2
        · have : ∀ {xs : List Nat} {as : List Addr}, RefsAt (L2.start N vs) xs as → ∀ p ∈ xs.zip as, (L2.start N vs)[p.1]? = some (some (.ref p.2)) := by
            intro xs as h
            induction h with
            | nil => intro p hp; cases hp
            | cons h1 _ ih =>
              intro p hp
              rw [List.zip_cons_cons] at hp
              rcases List.mem_cons.mp hp with rfl | hp
              · exact h1
              · exact ih p hp
          exact this ra0 p hp
        · unfold start0 L2.start
          simp only [List.length_append, List.length_map, List.length_replicate, hvo, hns]
      have hio : ∀ p ∈ (owns os).zip (ows vs os), p.1 ∈ d.io := fun p hp => by
        rw [← hc.2]
        exact (List.of_mem_zip hp).1
      refine ⟨_, ((hb cdv A outer s H E G _ hr hio).pss).nox, F, start0 d os, out, ρ', R, e1, ?_⟩
      -- behind the body
      have fin : ∀ (σ' : L2.St) (F' H' : Hp) (v : V) (o' : Ov) (l' : List (List PyData)), Ext G F F' → Rel K ((owns os).zip (ows vs os)) G F' H' σ' ρ' → DnO K G F' H' σ' ρ' v o' → outs d.io ρ' = some l' → Ret K F H F' H' (ows vs os) o' l' v := fun σ' F' H' v o' l' x R' dn eo => by
        have ra : RefsAt σ' (owns os) (ows vs os) := refs_zip ra0 R'.pin
        have ho : OutL K F' H' (ows vs os) l' := out_ok ra R' (by rw [hc.2]; exact eo)
        refine ⟨fun b y hy hb => R'.frm b y (by rw [hG b hb]; exact hy), x.le, fun b hb hh => ?_, R'.sub, ho, ?_⟩
        · by_cases hm : b ∈ ows vs os
          · obtain ⟨i, hi, hs⟩ := (refs_mem ra).2 b hm
            obtain ⟨xs, we⟩ := outs_some eo i (by rw [← hc.2]; exact hi)
            obtain ⟨a, h0, _, f1, _⟩ := R'.own i xs we
            rw [hs] at h0; cases h0
            exact f1
          · exact x.new b hb (by rw [hG b hm]; exact hh)
        · cases o' with
          | imm d' => exact dn
          | own xs =>
            obtain ⟨a, rfl, ⟨g, f1, ws, h1, dw⟩, na⟩ := dn
            refine ⟨a, ws, rfl, ?_, f1, h1, dw⟩
            by_cases hm : a ∈ ows vs os
            · obtain ⟨i, hi, hs⟩ := (refs_mem ra).2 a hm
              obtain ⟨xs', we⟩ := outs_some eo i (by rw [← hc.2]; exact hi)
              exact absurd hs (na i xs' we)
            · rw [hG a hm] at g; exact g
      refine ⟨fun σ' H' ⟨z, F', x, R'⟩ => ?_, fun v H' ⟨o', σ', F', z, x, R', dn⟩ => ?_, fun σ' H' ⟨z, F', x, R'⟩ => ?_, fun σ' H' ⟨z, F', x, R'⟩ => ?_⟩
      · cases z
        obtain ⟨l', eo, e3⟩ := Option.map_eq_some_iff.mp e2
        cases e3
        exact k .non H' F' (fin σ' F' H' .non (.imm .none) _ x R' .non eo)
      · cases z
        obtain ⟨l', eo, e3⟩ := Option.map_eq_some_iff.mp e2
        cases e3
        exact k v H' F' (fin σ' F' H' v _ _ x R' dn eo)
      · cases z; cases e2
      · cases z; cases e2
    · cases e
/-- nothing is promised of no room -/
theorem fn_zero {Φ : Nat → Option FX} {f' k : Nat} {f : Addr} {fd : FuncData} {ps : List Str} {CX : CXT} : FnOk P w K mg base CX k f fd ps (spF K (callN Φ 0) f' ps.length) where
  len := fun vs H Q E ⟨_, _, _, _, _, _, _, h, _⟩ => h
  run := fun A outer s H args us vs Q E _ _ _ _ ⟨_, _, _, _, _, _, _, _, e, _⟩ => by cases e
end
end Ev
set_option Elab.async false
set_option linter.all false
set_option maxRecDepth 100000
/-! EvD: the empty dict: written, copied. -/
namespace Ev
open PySem PySem.Spec PyProof.Rows L2 RT RZ
section
variable {X : Cx} {A : List (Nat × Addr)} {G : Hp} {cs : CS} {pins : List (Addr × Obj)} {s : Shared} {σ : L2.St} {H F : Hp} {ρ ρ' : Env} {o : Ov}
theorem Rel.newD0 {K : Frag} {p : Addr} (R : Rel K A G F H σ ρ) (hp : H p = none) : Post K A G F σ ρ (.imm (.dict [])) (.ref p) (upd H p (.dK [])) := by
  have hF : F p = none := R.sub.free hp
  have hG : G p = none := R.frm.free hp
  have e : Same F (upd F p (.dK [])) := same_upd hF
  have R1 := R.grow (same_upd (o := .dK []) hp)
  refine ⟨upd F p (.dK []), ⟨e, fun b hb gb => ?_⟩, R1.wide e (fun b x q => ?_) fun i xs a hi hs => ?_, .dct upd_same .nil rfl⟩
  · have : b ≠ p := fun z => gb (by rw [z]; exact hG)
    rw [upd_ne this]; exact hb
  · by_cases z : b = p
    · subst z; rw [upd_same] at q ⊢; exact q
    · rw [upd_ne z] at q ⊢
      exact R.sub _ _ q
  · obtain ⟨a', h1, _, f, vs, h2, _⟩ := R.own i xs hi
    rw [hs] at h1; cases h1
    have : a ≠ p := fun z => by rw [z, hp] at h2; cases h2
    rw [upd_ne this]; exact f
/-- {} -/
def dct0 (ρ : Env) : Option (Ov × Env) := some (.imm (.dict []), ρ)
theorem se_dct0 {pos : Pos} : SE X A G cs (.Dict [] [] pos) (.prim dct0) := by
  refine ⟨fun pins s σ H F ρ o ρ' I R h => ?_⟩
  unfold ev dct0 at h
  cases h
  exact pe_dnewK.run pins s σ H _ I fun p hp => R.newD0 hp
/-- return dict([.. for k in x]), x an empty dict -/
def retD0 (i : Nat) (ρ : Env) : Option (Out × Env) := match getE ρ i with
  | some (.imm (.dict [])) => some (.ret (.imm (.dict [])), ρ)
  | _ => none
theorem ss_retD0 {i : Nat} {y : Str} {elt tg : Expr} {scope : Scope} {own : List (Str × Nat)} {p q lpos cpos pos : Pos} (hc : X.calm = true) (hN : X.N.Nodup) (ok : BlkOk X.N X.env.scope scope own) (hm : X.mg "dict" = none) (hy : X.N[i]? = some y := by rfl)
    (hvi : Vis X.env.scope y := by first | exact Or.inl rfl | exact Or.inr (Or.inl rfl) | exact Or.inr (Or.inr rfl)) (hd : (y == ("__debug__" : Str)) = false := by decide) (hcd : (y == ("__classdict__" : Str)) = false := by decide) (hg : Gl X "dict" := by rfl)
    (hs : ∀ x, foldedSetIterable (.Name y q) X.env x = pure x := by intro _; rfl) (he : starEach [.ListComp elt [⟨tg, .Name y q, [], 0⟩] scope lpos] X.env = (false, eval (.ListComp elt [⟨tg, .Name y q, [], 0⟩] scope lpos) X.env) :: starEach [] X.env := by rfl) :
    SS X A G cs (.Return (some (.Call (.Name "dict" p) [.ListComp elt [⟨tg, .Name y q, [], 0⟩] scope lpos] [] cpos)) pos) (.prim (retD0 i)) := by
  refine ⟨fun pins s σ H F ρ out ρ' I R h => ?_⟩
  unfold evS retD0 at h
  split at h
  · rename_i hgi
    cases h
    obtain ⟨v, h0, dv⟩ := R.imm i _ hgi
    cases dv with
    | dct h1 h2 h3 =>
      rename_i a kvs ds
      have hds : ds = [] := by
        cases ds with
        | nil => rfl
        | cons d ds => cases h3
      subst hds
      cases h2
      have hH := R.sub _ _ h1
      have never : ∀ {Y : Cx} {e : Expr}, PE Y e (fun _ _ _ => False) := ⟨fun _ _ _ _ _ _ h => h.elim⟩
      have neverG : ∀ {Y : Cx} {t : Expr}, PG Y t (fun _ _ _ _ => False) := ⟨by intros; contradiction⟩
      refine (ps_ret (pe_lock (pe_callTy (call_dictP hc) hg hm (PyProof.Rows.Boot.«dict») (pa_cons (pe_lc (wi := iKeys (tVar i)) (g := fun _ _ _ _ => False) (te := fun _ _ _ => False) hc hN (pi_keys (pe_var hy hvi hd hcd)) ok (fun _ _ _ _ _ => neverG) (fun _ _ _ _ _ => pts_nil) (fun _ _ _ _ _ => never) hs) pa_nil he) (by decide) (by decide) he))).run pins s σ H _ I ?_
      have ne1 : ∀ {b : Addr} {u : HO}, upd H a u b = none → b ≠ a := fun {b u} e z => by rw [z, upd_same] at e; cases e
      refine ⟨a, .dK [], hH, trivial, fun od => ?_⟩
      refine ⟨.ref a, h0, a, od, rfl, .inl ⟨[], upd_same, fun D hD => ⟨fun j m H' => j = 0 ∧ H' = upd (upd H a (.frz od (.dK []))) D (.lst []), ⟨0, rfl, rfl⟩, ?_⟩⟩⟩
      rintro j m H' ⟨rfl, rfl⟩
      have nD := ne1 hD
      have hDn : H D = none := by rw [upd_ne nD] at hD; exact hD
      refine .inl ⟨⟨by rw [upd_ne (Ne.symm nD)]; exact upd_same, Nat.le_refl _⟩, D, [], [], rfl, SqL.of upd_same, .nil, fun p hp => ?_⟩
      have pD : p ≠ D := fun z => by rw [z, upd_same] at hp; cases hp
      have hp2 : upd H a (.frz od (.dK [])) p = none := by rw [upd_ne pD] at hp; exact hp
      have pa' := ne1 hp2
      have hpn : H p = none := by rw [upd_ne pa'] at hp2; exact hp2
      refine ⟨by rw [upd_ne (Ne.symm pa'), upd_ne (Ne.symm nD)]; exact upd_same, ?_⟩
      have sm : Same (upd H p (.dK [])) (upd (upd (upd (upd H a (.frz od (.dK []))) D (.lst [])) p (.dK (mergeK [] []))) a (.dK [])) := fun b x e => by
        by_cases z : b = a
        · subst z
          rw [upd_ne (Ne.symm pa')] at e
          rw [hH] at e; cases e
          exact upd_same
        · rw [upd_ne z]
          by_cases z2 : b = p
          · subst z2
            rw [upd_same] at e; cases e
            exact upd_same
          · rw [upd_ne z2] at e ⊢
            have z3 : b ≠ D := fun y => by rw [y, hDn] at e; cases e
            rw [upd_ne z3, upd_ne z]
            exact e
      obtain ⟨F', x1, R1, d1⟩ := R.newD0 hpn
      exact ⟨.imm (.dict []), σ, F', rfl, x1, R1.grow sm, d1⟩
  · cases h
end
end Ev
set_option Elab.async false
set_option linter.all false
set_option maxRecDepth 100000
/-! EvR: repr of nested data (where the guards of the stack are known). -/
namespace Ev
open PySem PySem.Spec PyProof.Rows L2 RT RZ
/-- data whose text can be told -/
structure Shows (d : PyData) : Prop where
  lay : d.canLay0 = true
  show_ : d.showable = true
  dict : d.hasDict = false
  dep : d.depth ≤ 64
  len : d.shown.length ≤ sizeLine
section
variable {X : Cx} {A : List (Nat × Addr)} {G : Hp} {cs : CS} {pins : List (Addr × Obj)} {s : Shared} {σ : L2.St} {H F : Hp} {ρ ρ' : Env} {o : Ov}
theorem call_reprD (hg : X.A.guards = some []) (hu : X.A.units + 100 < cLine) : CallR X (.builtin "repr") (fun xs H Q => ∃ a d, xs = [.ref a] ∧ Dp X.K H (.ref a) d ∧ Shows d ∧ Q (.str d.shown) H) := by
  intro pins s σ H xs us Q I r h
  obtain ⟨a, d, rfl, hd, sh, q⟩ := h
  obtain ⟨u, rfl, rx⟩ := vals1 r
  obtain ⟨as, r1⟩ := Dp.reads I d _ u hd rx
  cases rx
  have hdep := sh.dep
  exact repr_of_reads' r1 sh.show_ (fun z => by rw [sh.dict] at z; cases z) hg (by omega) (fun b o e => e) (fun h' u tk hk => ⟨.str d.shown, H, I.kept (t' := tk) hk, ⟨u, rfl⟩, q⟩) sh.len
def showsB (d : PyData) : Bool := d.canLay0 && d.showable && !d.hasDict && decide (d.depth ≤ 64) && decide (d.shown.length ≤ ll)
theorem showsB_ok {d : PyData} (h : showsB d = true) : Shows d := by
  unfold showsB at h
  simp only [Bool.and_eq_true, Bool.not_eq_true', decide_eq_true_eq] at h
  exact ⟨h.1.1.1.1, h.1.1.1.2, h.1.1.2, h.1.2, by rw [← ll_eq]; exact h.2⟩
/-- the text of a local's list or tuple, as a primitive expression -/
def reprV (i : Nat) (ρ : Env) : Option (Ov × Env) := (getE ρ i).bind fun o => if (seqOf o.d).isSome && showsB o.d then some (.imm (.str o.d.shown), ρ) else none
theorem pk_dp {K : Frag} {v : V} {d : PyData} (h : Pk K F H v d) (s : Same F H) (c : d.canLay0 = true) : Dp K H v d := by
  rcases h with h | ⟨a, vs, xs, rfl, rfl, h1, h2⟩
  · exact dp_mono s (h.dp c)
  · exact (Dn.lst h1 (h2.mono s)).dp c
theorem dp_ref {K : Frag} {v : V} {d : PyData} (h : Dp K H v d) (hs : (seqOf d).isSome = true) : ∃ a, v = .ref a := by
  cases h <;> first | exact ⟨_, rfl⟩ | cases hs
theorem se_reprV {i : Nat} {y : Str} {p q pos : Pos} (hgd : X.A.guards = some []) (hu : X.A.units + 100 < cLine) (hm : X.mg "repr" = none) (hg : Gl X "repr" := by rfl) (hN : X.N[i]? = some y := by rfl) (hvi : Vis X.env.scope y := by first | exact Or.inl rfl | exact Or.inr (Or.inl rfl) | exact Or.inr (Or.inr rfl))
    (hd : (y == ("__debug__" : Str)) = false := by decide) (hcd : (y == ("__classdict__" : Str)) = false := by decide) (he : starEach [.Name y q] X.env = (false, eval (.Name y q) X.env) :: starEach [] X.env := by rfl) (hpl : (backTo pos (starEach [] X.env)).any (·.1) = false := by rfl) :
    SE X A G cs (.Call (.Name "repr" p) [.Name y q] [] pos) (.prim (reprV i)) := by
  refine ⟨fun pins s σ H F ρ o ρ' I R h => ?_⟩
  unfold ev reprV at h
  obtain ⟨o1, e1, h⟩ := Option.bind_eq_some_iff.mp h
  split at h
  · rename_i hc
    cases h
    rw [Bool.and_eq_true] at hc
    have sh := showsB_ok hc.2
    obtain ⟨v, h0, pk⟩ := R.pk e1
    have dp := pk_dp pk R.sub sh.lay
    obtain ⟨a, rfl⟩ := dp_ref dp hc.1
    exact (pe_callB (call_reprD hgd hu) hg hm (by decide +kernel) (pa_cons (pe_var hN hvi hd hcd) pa_nil he) (by decide) (by decide) he hpl).run pins s σ H _ I ⟨_, h0, a, _, rfl, dp, sh, R.post (.str _)⟩
  · cases h
end
end Ev
set_option Elab.async false
set_option linter.all false
set_option maxRecDepth 100000
/-! EvG: defs whose promise wants that no repr is under way around them (the guards of the stack are known). -/
namespace Ev
open PySem PySem.Spec PyProof.Rows L2 RT RZ
structure FnOkG (P : Program) (w : World) (K : PySem.W.Frag) (mg : Str → Option Value) (base : Heap) (CX : CXT) (k : Nat) (f : Addr) (fd : FuncData) (ps : List Str) (sp : Sp) : Prop where
  len : ∀ vs H Q E, sp vs H Q E → vs.length = ps.length
  run : ∀ (A : Around) (outer : List PySem.Env) (s : Shared) (H : Hp) (args : Args) (us : List Value) (vs : List V) (Q : VK) (E : XK), Room k A → A.guards = some [] → Env0 P w K mg base A outer s H → BindsTo s fd args (ps.zip us) → Vals vs us → sp vs H Q E →
    codeAny (model P w) A (.call (.ref f) args) (CR CX outer P w H s Q E) s
section
variable {P : Program} {w : World} {K : PySem.W.Frag} {mg : Str → Option Value} {base : Heap} {CX : CXT} {k : Nat} {x qual : Str} {params : Arguments} {body : List Stmt} {scope : Scope} {dvs : List V} {kws : List (Str × V)} {f : Addr} {fd : FuncData} {N ps : List Str} {sp : Sp}
theorem fn_okG (F : FunD K x qual params body scope dvs kws f fd) (S : FnScope N ps scope) (len : ∀ vs H Q E, sp vs H Q E → vs.length = ps.length)
    (hbody : ∀ (cdv : Value) (A : Around) (outer : List PySem.Env) (s : Shared) (H : Hp) (vs : List V) (Q : VK) (E : XK), Room k (A.deeper (envOfC qual scope s.heap.objs.size f cdv)) → A.guards = some [] → fd.code = cdv → sp vs H Q E →
      ∃ t, PSs (cxOf CX P w K mg base N qual scope f cdv A outer s H E) body t ∧ t { nx := fun _ H' => Q .non H', rt := Q } (L2.start N vs) H) : FnOkG P w K mg base CX (k + 1) f fd ps sp := by
  obtain ⟨oc, od, dV, kV, doc, pm, an, cdv, ct, osl, rfl, lk, hcd, _, _⟩ := F.ex
  exact ⟨len, fun A outer s H args us vs Q E hr hg e0 hb r h => LamX.run_ofS lk hcd S hr e0 hb r (len _ _ _ _ h) fun hr' => hbody cdv A outer s H vs Q E hr' hg rfl h⟩
end
section
variable {X : Cx} {CX : CXT} {k : Nat} {f : Addr} {fd : FuncData} {ps : List Str} {sp : Sp} {dvs : List V} {ds : List Value} {E : XK} {x : Str} {p pos : Pos} {e : Expr} {es : List Expr} {t : TA}
theorem pe_callG (F : FnOkG X.prog X.w X.K X.mg X.base CX k f fd ps sp) (hgd : X.A.guards = some []) (hr : Room k X.A) (hg : Gl X x) (hm : X.mg x = some (.ref f)) (hk : PySem.W.keepIn X.K (.ref f) = true) (hb : L2.Binds X.K fd ps ds) (hd : Vals dvs ds) (hx : Passes CX X E)
    (ha : PA X (e :: es) t) (hdb : (x == ("__debug__" : Str)) = false := by decide) (he : starEach (e :: es) X.env = (false, eval e X.env) :: starEach es X.env := by rfl) (hpl : (backTo pos (starEach es X.env)).any (·.1) = false := by rfl) :
    PE X (.Call (.Name x p) (e :: es) [] pos) (tCall sp dvs E t) := by
  refine ⟨fun pins s σ H Q I h => ?_⟩
  refine wpAny_Call_Name_kw (ld_glob I hg hm ?_ hdb)
  refine PySem.W.callWith_K (h₀ := X.base) I.ok.mod.kin hk (thn (ha.run pos pins s σ H _ I h) fun us s1 ⟨vs, H1, I1, r, q⟩ => ⟨I1.kIn, ?_⟩) he hpl
  have r2 : Vals (vs ++ dvs) (us ++ ds) := r.append hd
  have hl : (us ++ ds).length = ps.length := by rw [← r2.length]; exact F.len _ _ _ _ q
  refine wpAny_call (codeAny_mono (F.run X.A X.stack s1 H1 ⟨us, []⟩ (us ++ ds) (vs ++ dvs) Q E hr hgd I1.env0 (hb s1 us I1.kIn hl) r2 q) fun r s' hq => ?_)
  cases r with
  | error e => exact hx pins σ H1 s1 e s' I1 hq
  | ok fl =>
    cases fl with
    | ret u => exact I1.after hq
    | next => exact False.elim hq
    | brk => exact False.elim hq
    | cont => exact False.elim hq
end
end Ev
set_option Elab.async false
set_option linter.all false
set_option maxRecDepth 100000
/-! S2: statements of the second level: tables of code objects may change (lambdas are made), what the def may not change is chosen anew. -/
namespace Ev
open PySem PySem.Spec PyProof.Rows L2 RT RZ LamX
/-- no tables -/
def NoTb (F : Hp) : Prop := ∀ b ps, F b ≠ some (.tbl ps)
structure R2 (K : Frag) (T : List (Addr × Str)) (A : List (Nat × Addr)) (G0 H : Hp) (σ : L2.St) (ρ : Env) : Prop where
  ex : ∃ G F, Same G0 G ∧ Tabs T G ∧ Rel K A G F H σ ρ
def End2 (K : Frag) (T : List (Addr × Str)) (A : List (Nat × Addr)) (G0 : Hp) (out : Out) (ρ : Env) : Ends where
  nx := fun σ H => out = .next ∧ R2 K T A G0 H σ ρ
  rt := fun v H => ∃ o σ, out = .ret o ∧ R2 K T A G0 H σ ρ ∧ (∀ b, o = .imm (.bool b) → v = .bl b)
  bk := fun σ H => out = .brk ∧ R2 K T A G0 H σ ρ
  ct := fun σ H => out = .cont ∧ R2 K T A G0 H σ ρ
section
variable {X : Cx} {T : List (Addr × Str)} {A : List (Nat × Addr)} {G G0 : Hp} {cs : CS} {pins : List (Addr × Obj)} {s : Shared} {σ : L2.St} {H F : Hp} {ρ ρ' : Env} {o : Ov} {tg : Expr}
theorem end2_of {K : Frag} {out : Out} (g : Same G0 G) (t : Tabs T G) : EndLe (EndS K A G F out ρ) (End2 K T A G0 out ρ) where
  nx := fun _ _ ⟨e, F', x, R⟩ => ⟨e, G, F', g, t, R⟩
  rt := fun v H ⟨o, σ, F', e, x, R, d⟩ => ⟨o, σ, e, ⟨G, F', g, t, R⟩, fun b z => by
    subst z
    cases d
    rfl⟩
  bk := fun _ _ ⟨e, F', x, R⟩ => ⟨e, G, F', g, t, R⟩
  ct := fun _ _ ⟨e, F', x, R⟩ => ⟨e, G, F', g, t, R⟩
structure S2 (X : Cx) (T : List (Addr × Str)) (A : List (Nat × Addr)) (G0 : Hp) (cs : CS) (st : Stmt) (is : IS) : Prop where
  run : ∀ (pins : List (Addr × Obj)) (s : Shared) (σ : L2.St) (H : Hp) (ρ : Env) (out : Out) (ρ' : Env), Inv X pins σ H s → R2 X.K T A G0 H σ ρ → evS cs is ρ = some (out, ρ') →
    wpAny (model X.prog X.w) X.A (exec st X.env) (L2.SP X pins (End2 X.K T A G0 out ρ')) X.xe s
structure SB2 (X : Cx) (T : List (Addr × Str)) (A : List (Nat × Addr)) (G0 : Hp) (cs : CS) (st : List Stmt) (is : ISs) : Prop where
  run : ∀ (pins : List (Addr × Obj)) (s : Shared) (σ : L2.St) (H : Hp) (ρ : Env) (out : Out) (ρ' : Env), Inv X pins σ H s → R2 X.K T A G0 H σ ρ → evSs cs is ρ = some (out, ρ') →
    wpAny (model X.prog X.w) X.A (execs st X.env) (L2.SP X pins (End2 X.K T A G0 out ρ')) X.xe s
theorem s2_of {st : Stmt} {is : IS} (h : ∀ G, SS X A G cs st is) : S2 X T A G0 cs st is :=
  ⟨fun pins s σ H ρ out ρ' I ⟨G, F, g, t, R⟩ e => thn ((h G).run pins s σ H F ρ out ρ' I R e) fun _ _ q => sp_le q (end2_of g t)⟩
theorem sb2_of {st : List Stmt} {is : ISs} (h : ∀ G, SB' X A G cs st is) : SB2 X T A G0 cs st is :=
  ⟨fun pins s σ H ρ out ρ' I ⟨G, F, g, t, R⟩ e => thn ((h G).run pins s σ H F ρ out ρ' I R e) fun _ _ q => sp_le q (end2_of g t)⟩
theorem sb2_nil : SB2 X T A G0 cs [] .nil := sb2_of fun _ => sb_nil
theorem sb2_cons {st : Stmt} {sts : List Stmt} {is : IS} {iss : ISs} (h1 : S2 X T A G0 cs st is) (h2 : SB2 X T A G0 cs sts iss) : SB2 X T A G0 cs (st :: sts) (.cons is iss) := by
  refine ⟨fun pins s σ H ρ out ρ' I R e => ?_⟩
  unfold evSs at e
  obtain ⟨⟨o1, ρ1⟩, e1, e⟩ := Option.bind_eq_some_iff.mp e
  refine wpAny_execs_cons (thn (h1.run pins s σ H ρ o1 ρ1 I R e1) fun f s1 q => ?_)
  cases f with
  | next =>
    obtain ⟨σ1, H1, I1, z, R1⟩ := q
    cases z
    exact h2.run pins s1 σ1 H1 ρ1 out ρ' I1 R1 e
  | brk =>
    obtain ⟨σ1, H1, I1, z, R1⟩ := q
    cases z; cases e
    exact ⟨σ1, H1, I1, rfl, R1⟩
  | cont =>
    obtain ⟨σ1, H1, I1, z, R1⟩ := q
    cases z; cases e
    exact ⟨σ1, H1, I1, rfl, R1⟩
  | ret u =>
    obtain ⟨v, σ1, H1, I1, r, o, σ2, z, q⟩ := q
    cases z; cases e
    exact ⟨v, σ1, H1, I1, r, o, σ2, rfl, q⟩
theorem s2_if {c : Expr} {a b : List Stmt} {it : IT} {ia ib : ISs} {pos : Pos} (hc : ∀ G, ST X A G cs c it) (ha : SB2 X T A G0 cs a ia) (hb : SB2 X T A G0 cs b ib) : S2 X T A G0 cs (.If c a b pos) (.ite it ia ib) := by
  refine ⟨fun pins s σ H ρ out ρ' I ⟨G, F, g, t, R⟩ e => ?_⟩
  unfold evS at e
  obtain ⟨⟨k, ρ1⟩, e1, e⟩ := Option.bind_eq_some_iff.mp e
  refine wpAny_If (thn ((hc G).run pins s σ H F ρ k ρ1 I R e1) fun d s1 ⟨H1, I1, q, F1, x1, R1⟩ => ?_)
  subst q
  cases d with
  | true => exact ha.run pins s1 σ H1 ρ1 out ρ' I1 ⟨G, F1, g, t, R1⟩ e
  | false => exact hb.run pins s1 σ H1 ρ1 out ρ' I1 ⟨G, F1, g, t, R1⟩ e
/-- the tables left out -/
def untb (F : Hp) : Hp := fun b => match F b with
  | some (.tbl _) => none
  | o => o
theorem untb_some {F : Hp} {b : Addr} {x : HO} (h : F b = some x) (n : ∀ ps, x ≠ .tbl ps) : untb F b = some x := by
  unfold untb
  rw [h]
  cases x <;> first | rfl | exact absurd rfl (n _)
theorem untb_le {F : Hp} : Same (untb F) F := fun b x h => by
  unfold untb at h
  split at h
  · cases h
  · exact h
theorem untb_no {F : Hp} : NoTb (untb F) := fun b ps h => by
  unfold untb at h
  split at h
  · cases h
  · rename_i z
    exact z ps h
/-- b is held by a slot as its own list -/
def Held (σ : L2.St) (ρ : Env) (b : Addr) : Prop := ∃ i xs, getE ρ i = some (.own xs) ∧ σ[i]? = some (some (.ref b))
open Classical in
/-- all but the own lists -/
noncomputable def full (H : Hp) (σ : L2.St) (ρ : Env) : Hp := fun b => if Held σ ρ b then none else H b
theorem full_held {b : Addr} (h : Held σ ρ b) : full H σ ρ b = none := by
  unfold full
  rw [if_pos h]
theorem full_not {b : Addr} (h : ¬ Held σ ρ b) : full H σ ρ b = H b := by
  unfold full
  rw [if_neg h]
theorem full_le : Same (full H σ ρ) H := fun b x h => by
  by_cases z : Held σ ρ b
  · rw [full_held z] at h; cases h
  · rw [full_not z] at h; exact h
theorem Rel.notHeld {K : Frag} (R : Rel K A G F H σ ρ) {b : Addr} (h : G b ≠ none ∨ F b ≠ none) : ¬ Held σ ρ b := fun ⟨i, xs, h1, h2⟩ => by
  obtain ⟨a, h3, g, f, _⟩ := R.own i xs h1
  rw [h2] at h3; cases h3
  rcases h with h | h
  · exact h g
  · exact h f
theorem Rel.leFull {K : Frag} (R : Rel K A G F H σ ρ) : Same G (full H σ ρ) := fun b x h => by
  rw [full_not (R.notHeld (.inl (by rw [h]; simp)))]
  exact R.frm b x h
theorem Rel.leFullF {K : Frag} (R : Rel K A G F H σ ρ) : Same F (full H σ ρ) := fun b x h => by
  rw [full_not (R.notHeld (.inr (by rw [h]; simp)))]
  exact R.sub b x h
/-- what may not change: chosen anew -/
theorem Rel.reG {K : Frag} {G' : Hp} (R : Rel K A G F H σ ρ) (s : Same G' (full H σ ρ)) : Rel K A G' F H σ ρ := by
  refine ⟨s.trans full_le, R.sub, R.imm, fun i xs h => ?_, R.dis, R.pin, R.len⟩
  obtain ⟨a, h1, g, f, q⟩ := R.own i xs h
  refine ⟨a, h1, ?_, f, q⟩
  cases e : G' a with
  | none => rfl
  | some x =>
    have := s _ _ e
    rw [full_held ⟨i, xs, h, h1⟩] at this
    cases this
def joinH (F D : Hp) : Hp := fun b => match F b with
  | some o => some o
  | none => D b
theorem join_l {F D : Hp} {b : Addr} {x : HO} (h : F b = some x) : joinH F D b = some x := by
  unfold joinH
  rw [h]
theorem join_r {F D : Hp} {b : Addr} (h : F b = none) : joinH F D b = D b := by
  unfold joinH
  rw [h]
/-- more data: what may not change is data, too -/
theorem Rel.reF {K : Frag} {D : Hp} (R : Rel K A G F H σ ρ) (s : Same D G) : ∃ F', Rel K A G F' H σ ρ ∧ Same F F' ∧ Same D F' := by
  refine ⟨joinH F D, R.wide (fun b x h => join_l h) (fun b x h => ?_) (fun i xs a h1 h2 => ?_), fun b x h => join_l h, fun b x h => ?_⟩
  · cases e : F b with
    | some o =>
      rw [join_l e] at h
      cases h
      exact R.sub _ _ e
    | none =>
      rw [join_r e] at h
      exact R.frm _ _ (s _ _ h)
  · obtain ⟨a', h3, g, f, _⟩ := R.own i xs h1
    rw [h2] at h3; cases h3
    rw [join_r f]
    cases e : D a with
    | none => rfl
    | some o => rw [s _ _ e] at g; cases g
  · cases e : F b with
    | some o =>
      have h1 := R.sub _ _ e
      have h2 := R.frm _ _ (s _ _ h)
      rw [h1] at h2
      rw [join_l e]
      exact h2
    | none => rw [join_r e]; exact h
mutual
theorem Dn.monoN {K : Frag} {F F' : Hp} (s : SameN F F') : ∀ {v : V} {d : PyData}, Dn K F v d → Dn K F' v d
  | _, _, .non => .non
  | _, _, .bl b => .bl b
  | _, _, .int i => .int i
  | _, _, .str x => .str x
  | _, _, .lst h q => .lst (s.lst h) (DnA.monoN s q)
  | _, _, .tup h q => .tup (s.sqT h) (DnA.monoN s q)
  | _, _, .dct h q e => .dct (s _ _ h (fun _ z => by cases z)) (DnK.monoN s q) e
theorem DnA.monoN {K : Frag} {F F' : Hp} (s : SameN F F') : ∀ {vs : List V} {ds : List PyData}, DnA K F vs ds → DnA K F' vs ds
  | _, _, .nil => .nil
  | _, _, .cons h q => .cons (Dn.monoN s h) (DnA.monoN s q)
theorem DnK.monoN {K : Frag} {F F' : Hp} (s : SameN F F') : ∀ {vs : List (Key × V)} {ds : List (Key × PyData)}, DnK K F vs ds → DnK K F' vs ds
  | _, _, .nil => .nil
  | _, _, .cons h q => .cons (Dn.monoN s h) (DnK.monoN s q)
end
theorem Yl.monoN {K : Frag} {F' H' : Hp} {x : V} {d : PyData} (s : SameN F F') (y : Yl K F H x H' d) : Yl K F' H x H' d := by
  rcases y with ⟨e, h⟩ | ⟨p, vs, es, e1, hp, e2, e3, h⟩
  · exact .inl ⟨e, h.monoN s⟩
  · exact .inr ⟨p, vs, es, e1, hp, e2, e3, h.monoN s⟩
def tEvSs2 (K : Frag) (T : List (Addr × Str)) (A : List (Nat × Addr)) (G0 : Hp) (cs : CS) (is : ISs) : TS := fun D σ H => ∃ ρ out ρ', R2 K T A G0 H σ ρ ∧ evSs cs is ρ = some (out, ρ') ∧ EndLe (End2 K T A G0 out ρ') D
theorem SB2.pss {st : List Stmt} {is : ISs} (h : SB2 X T A G0 cs st is) : PSs X st (tEvSs2 X.K T A G0 cs is) := ⟨fun pins s σ H D I ⟨ρ, out, ρ', R, e, l⟩ => thn (h.run pins s σ H ρ out ρ' I R e) fun _ _ q => sp_le q l⟩
def tLoop2 (K : Frag) (T : List (Addr × Str)) (A : List (Nat × Addr)) (cs : CS) (is : ISs) : TS := fun D σ H => ∃ G0, NoTb G0 ∧ tEvSs2 K T A G0 cs is D σ H
theorem s2_for {iter : Expr} {body : List Stmt} {is : List Nat} {ig : IG} {ib : ISs} {pos : Pos} (hn : NoTb G0) (hp : PassesOwn (model X.prog X.w) X.A X.env X.xe) (hc : X.calm = true) (hi : ∀ G, SG X A G cs tg iter ig) (hg : SP' X A tg is) (hb : ∀ G0, NoTb G0 → SB2 X T A G0 cs body ib)
    (hs : ∀ x, foldedSetIterable iter X.env x = pure x := by intro _; rfl) : S2 X T A G0 cs (.For tg iter body [] pos) (.loop is ig ib) := by
  refine ⟨fun pins s σ H ρ out ρ' I ⟨G, F, g0, t0, R⟩ e => ?_⟩
  unfold evS at e
  obtain ⟨⟨ds, ρ1⟩, eG, e⟩ := Option.bind_eq_some_iff.mp e
  refine (ps_for hp hc (hi G) hg.pg (tb := tLoop2 X.K T A cs ib) ⟨fun pins s σ H D I ⟨G0, n, h⟩ => (hb G0 n).pss.run pins s σ H D I h⟩ hs).run pins s σ H _ I ⟨F, ρ, ds, ρ1, R, eG, fun J F1 H1 x1 R1 feed _ => ?_⟩
  -- what the loop may not change
  have D0 : Same (untb (full H1 σ ρ1)) (full H1 σ ρ1) := untb_le
  have gD : Same G0 (untb (full H1 σ ρ1)) := fun b x h => untb_some (R1.leFull _ _ (g0 _ _ h)) fun ps z => by subst z; exact hn b ps h
  have fD : SameN F1 (untb (full H1 σ ρ1)) := fun b x h n => untb_some (R1.leFullF _ _ h) n
  have R1' : R2 X.K T A (untb (full H1 σ ρ1)) H1 σ ρ1 := ⟨full H1 σ ρ1, F1, D0, t0.ext R1.leFull, R1.reG (.refl _)⟩
  have r2 : ∀ {H' : Hp} {σ' : L2.St} {ρ' : Env}, R2 X.K T A (untb (full H1 σ ρ1)) H' σ' ρ' → R2 X.K T A G0 H' σ' ρ' := fun ⟨⟨G, F, g, t, R⟩⟩ => ⟨G, F, gD.trans g, t, R⟩
  refine ⟨fun i m σq Hq => m + i = ds.length ∧ ∃ ρ2, R2 X.K T A (untb (full H1 σ ρ1)) Hq σq ρ2 ∧ goFor is (evSs cs ib) (ds.drop i) ρ2 = some (out, ρ'), ⟨ds.length, by simp, ρ1, R1', by simpa using e⟩, ?_⟩
  rintro i m σ2 H2 ⟨hm, ρ2, R2', eR⟩
  obtain ⟨G2, F2, g2, t2, R2⟩ := id R2'
  have hsub : SameN F1 H2 := fun b x h n => R2.frm _ _ (g2 _ _ (fD _ _ h n))
  by_cases hi : i < ds.length
  · refine .inr ⟨feed.go i H2 hsub hi, _, fun σ' H' hW => ⟨m - 1, by omega, hW⟩, fun x H3 y => ?_⟩
    obtain ⟨F3, R3, _, d3⟩ := R2.reF g2
    have yl := (feed.yld i H2 x H3 hsub y _ (List.getElem?_eq_getElem hi)).monoN (F' := F3) fun b x h n => d3 _ _ (fD _ _ h n)
    rw [List.drop_eq_getElem_cons hi] at eR
    unfold goFor at eR
    obtain ⟨ρ3, eB, eR⟩ := Option.bind_eq_some_iff.mp eR
    obtain ⟨⟨o1, ρ4⟩, eS, eR⟩ := Option.bind_eq_some_iff.mp eR
    obtain ⟨F4, x4, R4, dn4, s4⟩ := yl_ok R3 yl
    refine ⟨G2, F4, ρ2, _, ρ3, R4, dn4, eB, fun σ3 R5 _ _ => ⟨_, untb_no, ρ3, o1, ρ4, ⟨G2, F4, g2, t2, R5⟩, eS, fun σ' H' ⟨z, R6⟩ => ?_, fun v H' ⟨o, σ7, z, q7, q⟩ => ?_, fun σ' H' ⟨z, R6⟩ => ?_, fun σ' H' ⟨z, R6⟩ => ?_⟩⟩
    · cases z
      exact ⟨by omega, ρ4, R6, eR⟩
    · cases z
      cases eR
      exact ⟨o, σ7, rfl, r2 q7, q⟩
    · cases z
      cases eR
      exact ⟨rfl, r2 R6⟩
    · cases z
      exact ⟨by omega, ρ4, R6, eR⟩
  · rw [List.drop_eq_nil_of_le (by omega)] at eR
    cases eR
    exact .inl ⟨feed.stop i H2 hsub (by omega), rfl, r2 R2'⟩
end
end Ev
set_option Elab.async false
set_option linter.all false
set_option maxRecDepth 100000
/-! S2F: a def of the second level keeps its promise. -/
namespace Ev
open PySem PySem.Spec PyProof.Rows L2 RT RZ LamX
theorem tabs_lst {T : List (Addr × Str)} {H H' : Hp} (t : Tabs T H) (e : ∀ b o, H b = some o → (∀ vs, o ≠ .lst vs) → H' b = some o) : Tabs T H' := fun p hp => by
  obtain ⟨ps, h1, h2, h3⟩ := t p hp
  refine ⟨ps, e _ _ h1 (fun _ z => by cases z), h2, fun pos cv hc => ?_⟩
  obtain ⟨c, e1, e2⟩ := h3 pos cv hc
  exact ⟨c, e1, e _ _ e2 (fun _ z => by unfold CodeO at z; cases z)⟩
/-- what a def's body tells -/
def runD (cs : CS) (d : FD) (os : List Ov) : Option (Ov × List (List PyData)) := if os.length = d.np ∧ owns os = d.io then (evSs cs d.body (start0 d os)).bind fun p => match p with
    | (.ret o, ρ) => (outs d.io ρ).map fun l => (o, l)
    | _ => none
  else none
/-- True or False; all but the handed lists and the tables stays -/
def spB2 (K : Frag) (T : List (Addr × Str)) (g : List Ov → Option (Ov × List (List PyData))) (np : Nat) : Sp := fun vs H Q _ => ∃ F os b l, Tabs T H ∧ Same F H ∧ ArgO K F H vs os ∧ (ows vs os).Nodup ∧ vs.length = np ∧ g os = some (.imm (.bool b), l) ∧
  ∀ H' F', (∀ a x, H a = some x → a ∉ ows vs os → (∀ ps, x ≠ .tbl ps) → H' a = some x) → Tabs T H' → Same F' H' → OutL K F' H' (ows vs os) l → Q (.bl b) H'
theorem ows_lst {K : Frag} {F H : Hp} : ∀ {vs : List V} {os : List Ov}, ArgO K F H vs os → ∀ a ∈ ows vs os, ∃ ws, H a = some (.lst ws)
  | _, _, .nil, a, h => by cases h
  | v :: vs, _ :: os, .imm (d := d) _ q, a, h => by
    have e : ows (v :: vs) (.imm d :: os) = ows vs os := by cases v <;> rfl
    rw [e] at h
    exact ows_lst q a h
  | _, _, .own _ h1 _ q, a, h => by
    rcases List.mem_cons.mp h with rfl | h
    · exact ⟨_, h1⟩
    · exact ows_lst q a h
section
variable {P : Program} {w : World} {K : Frag} {mg : Str → Option Value} {base : Heap}
theorem fn2_step {cs : CS} {T : List (Addr × Str)} {n : Nat} {d : FD} {N ps : List Str} {x qual : Str} {params : Arguments} {body : List Stmt} {scope : Scope} {f : Addr} {fd : FuncData} (Fu : FunD K x qual params body scope [] [] f fd) (S : FnScope N ps scope) (hnp : ps.length = d.np) (hns : N.length = d.ns)
    (hb : ∀ (cdv : Value) (A : Around) (outer : List PySem.Env) (s : Shared) (H : Hp) (E : XK) (G0 : Hp) (Ap : List (Nat × Addr)), Room n (A.deeper (envOfC qual scope s.heap.objs.size f cdv)) → A.guards = some [] → fd.code = cdv → NoTb G0 → (∀ p ∈ Ap, p.1 ∈ d.io) →
      SB2 (cxOf CX0 P w K mg base N qual scope f cdv A outer s H E).nox T Ap G0 cs body d.body) : FnOkG P w K mg base CX0 (n + 1) f fd ps (spB2 K T (runD cs d) ps.length) := by
  refine fn_okG Fu S (fun vs H Q E h => ?_) (fun cdv A outer s H vs Q E hr hgd hcd h => ?_)
  · obtain ⟨_, _, _, _, _, _, _, _, h, _⟩ := h
    exact h
  · obtain ⟨F, os, bb, l, hT, hF, hA, nd, hlen, e, k⟩ := h
    unfold runD at e
    split at e
    · rename_i hc
      obtain ⟨⟨out, ρ'⟩, e1, e2⟩ := Option.bind_eq_some_iff.mp e
      have hvo := hA.len
      have ra0 : RefsAt (L2.start N vs) (owns os) (ows vs os) := refs_own hA fun i v hi => by rw [Nat.zero_add]; exact start_get hi
      let G : Hp := fun b => if b ∈ ows vs os then none else H b
      have hG : ∀ b, b ∉ ows vs os → G b = H b := fun b hb => if_neg hb
      have hGo : ∀ b, b ∈ ows vs os → G b = none := fun b hb => if_pos hb
      -- the relation at the entry
      have R : Rel K ((owns os).zip (ows vs os)) G F H (L2.start N vs) (start0 d os) := by
        refine ⟨fun b x q => ?_, hF, fun i d' q => ?_, fun i xs q => ?_, fun i j xs ys a q1 q2 z1 z2 => ?_, fun p hp => ?_, ?_⟩
        · by_cases hb : b ∈ ows vs os
          · rw [hGo b hb] at q; cases q
          · rw [hG b hb] at q; exact q
        · rw [getE_start] at q
          obtain ⟨v, h1, h2⟩ := hA.get q
          exact ⟨v, start_get h1, h2⟩
        · rw [getE_start] at q
          obtain ⟨v, h1, a, ws, rfl, h2, h3, h4⟩ := hA.get q
          refine ⟨a, start_get h1, hGo a ?_, h2, ws, h3, h4⟩
          obtain ⟨b, hb, hs⟩ := (refs_mem ra0).1 i (by have := ownsF_mem (k := 0) q; rw [Nat.zero_add] at this; exact this)
          rw [start_get h1] at hs
          cases hs
          exact hb
        · rw [getE_start] at q1 q2
          have m1 : i ∈ owns os := by have := ownsF_mem (k := 0) q1; rw [Nat.zero_add] at this; exact this
          have m2 : j ∈ owns os := by have := ownsF_mem (k := 0) q2; rw [Nat.zero_add] at this; exact this
          exact refs_inj ra0 nd i m1 j m2 a z1 z2
        · have : ∀ {xs : List Nat} {as : List Addr}, RefsAt (L2.start N vs) xs as → ∀ p ∈ xs.zip as, (L2.start N vs)[p.1]? = some (some (.ref p.2)) := by
            intro xs as h
            induction h with
            | nil => intro p hp; cases hp
            | cons h1 _ ih =>
              intro p hp
              rw [List.zip_cons_cons] at hp
              rcases List.mem_cons.mp hp with rfl | hp
              · exact h1
              · exact ih p hp
          exact this ra0 p hp
        · unfold start0 L2.start
          simp only [List.length_append, List.length_map, List.length_replicate, hvo, hns]
      have hio : ∀ p ∈ (owns os).zip (ows vs os), p.1 ∈ d.io := fun p hp => by
        rw [← hc.2]
        exact (List.of_mem_zip hp).1
      have tG : Tabs T G := tabs_lst hT fun b o h n => by
        rw [hG b fun hm => ?_]
        · exact h
        · obtain ⟨ws, hw⟩ := ows_lst hA b hm
          rw [h] at hw
          cases hw
          exact n _ rfl
      refine ⟨_, ((hb cdv A outer s H E (untb G) _ hr hgd hcd untb_no hio).pss).nox, start0 d os, out, ρ', ⟨G, F, untb_le, tG, R⟩, e1, ?_⟩
      have fin : ∀ H', Same (untb G) H' → ∀ a x, H a = some x → a ∉ ows vs os → (∀ ps, x ≠ .tbl ps) → H' a = some x := fun H' s a x h m n => s _ _ (untb_some (by rw [hG a m]; exact h) n)
      refine ⟨fun σ' H' ⟨z, _⟩ => ?_, fun v H' ⟨o', σ', z, q1, q3⟩ => ?_, fun σ' H' ⟨z, _⟩ => ?_, fun σ' H' ⟨z, _⟩ => ?_⟩
      · cases z; cases e2
      · cases z
        obtain ⟨l', eo, e3⟩ := Option.map_eq_some_iff.mp e2
        cases e3
        rw [q3 bb rfl]
        obtain ⟨G', F', g', t', R'⟩ := q1
        have ra : RefsAt σ' (owns os) (ows vs os) := refs_zip ra0 R'.pin
        exact k H' F' (fin H' (g'.trans R'.frm)) (t'.ext R'.frm) R'.sub (out_ok ra R' (by rw [hc.2]; exact eo))
      · cases z; cases e2
      · cases z; cases e2
    · cases e
end
end Ev
set_option Elab.async false
set_option linter.all false
set_option maxRecDepth 100000
set_option maxHeartbeats 2000000
/-! EG: the end of a law whose promise wants known guards (FnOkG). -/
namespace Ev
open PySem PySem.Spec PyProof.Rows L2 LamX
open Classical in
/-- what is tracked where the law begins: the script, if K has no literal there; the tables, empty -/
noncomputable def lawH (K : Frag) (a : Addr) (o : Obj) (xs : List V) (ts : List Addr) : Hp := fun b => if b ∈ ts then some (.tbl #[]) else if b = a ∧ K.lookup a = none then some (.frz o (.lst xs)) else none
section
variable {K : Frag} {a : Addr} {o : Obj} {xs : List V} {ts : List Addr}
theorem lawH_t {b : Addr} (h : b ∈ ts) : lawH K a o xs ts b = some (.tbl #[]) := by
  unfold lawH; rw [if_pos h]
theorem lawH_a (h : a ∉ ts) (k : K.lookup a = none) : lawH K a o xs ts a = some (.frz o (.lst xs)) := by
  unfold lawH; rw [if_neg h, if_pos ⟨rfl, k⟩]
theorem lawH_some {b : Addr} {x : HO} (h : lawH K a o xs ts b = some x) : (b ∈ ts ∧ x = .tbl #[]) ∨ (b ∉ ts ∧ b = a ∧ K.lookup a = none ∧ x = .frz o (.lst xs)) := by
  unfold lawH at h
  by_cases t : b ∈ ts
  · rw [if_pos t] at h; cases h; exact .inl ⟨t, rfl⟩
  · rw [if_neg t] at h
    by_cases z : b = a ∧ K.lookup a = none
    · rw [if_pos z] at h; cases h; exact .inr ⟨t, z.1, z.2, rfl⟩
    · rw [if_neg z] at h; cases h
end
theorem law_callG {P : Program} {w : World} {K : Frag} {mg mb : Str → Option Value} {k : Nat} {fa a : Addr} {cs : List (Addr × Addr)} {fd : FuncData} {x : Str} {sp : Sp} {s₁ : Shared} {vs : List Value} {ns : List Int}
    (KX : K.In s₁.heap) (nsg : s₁.heap.Ns mainGlobals mg) (nsb : s₁.heap.Ns builtinsNs mb) (hbb : ∀ x : Str, x ≠ "__name__" → mb x = bootBuiltins x) (hlim : s₁.heap.NoLimit) (hgen : s₁.gens = #[])
    (tab : ∀ p ∈ cs, s₁.heap.get? p.2 = some { cls := .none, data := .fields #[] } ∧ K.lookup p.2 = none ∧ PySem.W.CodeHd s₁.heap p.1 p.2)
    (hbm : ∃ (bm : Addr) (ob : Obj), mg "__builtins__" = some (.ref bm) ∧ bm ≠ builtinsNs ∧ s₁.heap.get? bm = some ob ∧ ob.cls = .type "module" ∧ ob.dict = some builtinsNs ∧ ob.data = .plain)
    (ha : s₁.heap.get? a = some { cls := .type "list", data := .seq vs.toArray }) (hi : IntsAre vs ns) (hl : ns.length ≤ sizeLine) (hr : Room k callerA) (hgd : callerA.guards = some [])
    (Fn : ∀ base : Heap, K.In base → base.Ns mainGlobals mg → (∀ p ∈ cs, TabB base mg p.1 p.2) → FnOkG P w K mg base CX0 k fa fd [x] sp) (hbind : ∀ (s : Shared) (u : Value), BindsTo s fd ⟨[u], []⟩ [(x, u)])
    (hsp : ∀ H : Hp, (∀ p ∈ cs, H p.2 = some (.tbl #[])) → SqL K H a (ns.map V.int) → sp [.ref a] H (fun v _ => v = .bl true) fun _ _ _ => False) :
    codeAny (model P w) callerA (.call (.ref fa) ⟨[.ref a], []⟩) (fun r s' => r = .ok (.ret (.bool true)) ∧ OldK s₁.heap s'.heap ∧ s'.os = s₁.os ∧ AllBare s'.gens) s₁ := by
  have rv := vals_ints hi
  have lv := hi.length
  have tabO : ∀ b ∈ cs.map (·.2), s₁.heap.get? b = some { cls := .none, data := .fields #[] } := fun b hb => by
    obtain ⟨p, hp, rfl⟩ := List.mem_map.mp hb
    exact (tab p hp).1
  have inT : ∀ p ∈ cs, p.2 ∈ cs.map (·.2) := fun p hp => List.mem_map_of_mem hp
  have aT : a ∉ cs.map (·.2) := fun z => by
    have := tabO a z
    rw [ha] at this
    injection this with e
    injection e with _ _ e
    cases e
  let H := lawH K a { cls := .type "list", data := .seq vs.toArray } (ns.map V.int) (cs.map (·.2))
  have Ht : ∀ p ∈ cs, H p.2 = some (.tbl #[]) := fun p hp => lawH_t (inT p hp)
  have Hs : SqL K H a (ns.map V.int) := by
    cases q : K.lookup a with
    | none => exact .inl (.inr ⟨_, lawH_a aT q⟩)
    | some o =>
      have e := KX a o q
      rw [ha] at e
      cases e
      exact .inr ⟨_, vs.toArray, _, q, rfl, rfl, rfl, by rw [List.size_toArray, lv]; exact hl, by simpa using rv⟩
  have Hok : HOk P w H s₁.heap := fun b u hu => by
    rcases lawH_some hu with ⟨t, rfl⟩ | ⟨_, rfl, _, rfl⟩
    · exact tabO b t
    · exact ⟨ha, by rw [List.length_map]; exact hl, vs, _, rv, ha⟩
  -- what is neither a list nor a table of code objects is not tracked
  have free : ∀ {b : Addr} {o : Obj}, s₁.heap.get? b = some o → (∀ us n, o.data ≠ .seq us n) → o.data ≠ .fields #[] → H b = none := fun {b o} e n1 n2 => by
    cases q : H b with
    | none => rfl
    | some u =>
      exfalso
      rcases lawH_some q with ⟨t, _⟩ | ⟨_, z, _, _⟩
      · rw [tabO b t] at e; cases e; exact n2 rfl
      · rw [z, ha] at e; cases e; exact n1 _ _ rfl
  have base_of : ∀ {b : Addr} {o : Obj}, s₁.heap.get? b = some o → (∀ us n, o.data ≠ .seq us n) → o.data ≠ .fields #[] → (hidT s₁.heap H).get? b = some o := fun e n1 n2 => hidT_get e (free e n1 n2)
  have nsK : ∀ {b : Addr} {m : Str → Option Value}, s₁.heap.Ns b m → (hidT s₁.heap H).Ns b m := fun {b m} ⟨o, es, ep, e, d, r⟩ =>
    ⟨o, es, ep, base_of e (fun us n z => by rw [d] at z; cases z) (fun z => by rw [d] at z; cases z), d, r⟩
  have hKb : K.In (hidT s₁.heap H) := fun b o e => hidT_get (KX b o e) (by
    cases q : H b with
    | none => rfl
    | some u =>
      exfalso
      rcases lawH_some q with ⟨t, _⟩ | ⟨_, z, k0, _⟩
      · obtain ⟨p, hp, rfl⟩ := List.mem_map.mp t
        rw [(tab p hp).2.1] at e; cases e
      · rw [z, k0] at e; cases e)
  have TB : ∀ p ∈ cs, TabB (hidT s₁.heap H) mg p.1 p.2 := fun p hp => by
    obtain ⟨t1, t2, t3⟩ := tab p hp
    refine ⟨?_, ?_, fun z => ?_⟩
    · obtain ⟨o, us, file, tf, fl, tg, i9, tx, tt, c1, c2, c3, c4, c5, c6, c7, c8, c9, c10⟩ := t3
      refine ⟨o, us, file, tf, fl, tg, i9, tx, tt, base_of c1 (fun us n z => by rw [c3] at z; cases z) (fun z => ?_), c2, c3, c4, c5, c6, c7, c8, c9, c10⟩
      rw [c3] at z
      cases z
      simp at c4
    · obtain ⟨bm, ob, g1, g2, g3, g4, g5, g6⟩ := hbm
      have dG : bm ≠ mainGlobals := fun q => by
        obtain ⟨o, es, ep, e, d, _⟩ := nsg
        rw [q, e] at g3; cases g3
        rw [g6] at d; cases d
      have dP : bm ≠ p.2 := fun q => by
        rw [q, t1] at g3; cases g3
        cases g6
      exact ⟨bm, ob, g1, g2, dG, dP, base_of g3 (fun us n z => by rw [g6] at z; cases z) (fun z => by rw [g6] at z; cases z), g4, g5, g6⟩
    · obtain ⟨o, es, ep, e, d, _⟩ := nsg
      rw [z, t1] at e; cases e; cases d
  have e0 : Env0 P w K mg (hidT s₁.heap H) callerA [] s₁ H := by
    refine ⟨rfl, ⟨hKb, nsK nsg, ⟨mb, nsK nsb, hbb⟩, ?_⟩, fun b o e => of_hidT e, Nat.le_of_eq (hidT_size _ _), trivial, fun b hb => ?_, Hok, .of_eq hgen⟩
    · obtain ⟨mc, n1, n2⟩ := hlim
      exact ⟨mc, nsK n1, n2⟩
    · have hb : b ∈ ([] : List Addr) := hb
      cases hb
  refine codeAny_mono ((Fn _ hKb (nsK nsg) TB).run callerA [] s₁ H ⟨[.ref a], []⟩ [.ref a] [.ref a] _ _ hr hgd e0 (hbind s₁ (.ref a)) (.cons rfl .nil) (hsp H Ht Hs)) fun r s' q => ?_
  match r, q with
  | .error e, q => exact False.elim q
  | .ok .next, q => exact False.elim q
  | .ok .brk, q => exact False.elim q
  | .ok .cont, q => exact False.elim q
  | .ok (.ret u), q =>
    obtain ⟨v, H', os, bare, un, hok', r', qv⟩ := q
    have qv : v = .bl true := qv
    subst qv
    obtain rfl : u = Value.bool true := r'
    -- all but the tables stays as it was
    have stay : ∀ b o, b ∉ cs.map (·.2) → s₁.heap.get? b = some o → s'.heap.get? b = some o := fun b o nb e => by
      cases q : H b with
      | none => exact un.keep b o e q (fun z => by have z : b ∈ ([] : List Addr) := z; cases z) (by simp)
      | some u =>
        rcases lawH_some q with ⟨t, _⟩ | ⟨_, _, _, rfl⟩
        · exact absurd t nb
        · obtain ⟨g1, _⟩ := Hok b _ q
          obtain ⟨g2, _⟩ := hok' b _ (un.frzs b _ _ q)
          rw [e] at g1; cases g1
          exact g2
    have grown : ∀ p ∈ cs, ∃ more : Array Value, s'.heap.get? p.2 = some { cls := .none, data := .fields more } := fun p hp => by
      obtain ⟨more, z⟩ := un.tbls p.2 #[] (Ht p hp)
      exact ⟨_, hok' p.2 _ z⟩
    refine ⟨rfl, ⟨fun b o e => ?_, fun b o e => ?_⟩, os, bare⟩ <;> by_cases hb : b ∈ cs.map (·.2)
    · obtain ⟨p, hp, rfl⟩ := List.mem_map.mp hb
      obtain ⟨more, hm⟩ := grown p hp
      have t1 := (tab p hp).1
      rw [t1] at e
      cases e
      exact .inr (.inl ⟨((tab p hp).2.2.tab t1).isCodeTable, rfl, #[], more, rfl, by rw [Array.empty_append]; exact hm⟩)
    · exact .inl (stay b o hb e)
    · obtain ⟨p, hp, rfl⟩ := List.mem_map.mp hb
      obtain ⟨more, hm⟩ := grown p hp
      exact ⟨_, hm⟩
    · exact ⟨o, stay b o hb e⟩
end Ev
namespace Ev
open PySem PySem.Spec PyProof.Rows L2 LamX
/-- the walk of such a law -/
theorem walk_ofG {l : PySem.W.OpenLaw} {n k : Nat} {q : Program} {loose : List Str} {XP : (Str → Option Value) → Heap → Prop} {YP : World → Heap → Prop} {d : DefRec} {x : Str} (hn : l.most = some n) (hn2 : n ≤ sizeLine) (hdf : d.params.defaults = []) (hr : Room k callerA)
    (F : ∀ (w : World) (mg : Str → Option Value) (fa : Addr) (h : Heap), YP w h → h.Ns mainGlobals mg → mg d.name = some (.ref fa) → ∃ (K : Frag) (fd : FuncData) (cs : List (Addr × Addr)) (sp : Sp), K.In h ∧ (∀ p ∈ cs, h.get? p.2 = some { cls := .none, data := .fields #[] } ∧ K.lookup p.2 = none ∧ PySem.W.CodeHd h p.1 p.2) ∧
      (∀ (s : Shared) (u : Value), BindsTo s fd ⟨[u], []⟩ [(x, u)]) ∧ (∀ (H : Hp) (a : Addr) (ns : List Int), (∀ p ∈ cs, H p.2 = some (.tbl #[])) → SqL K H a (ns.map V.int) → sp [.ref a] H (fun v _ => v = .bl true) fun _ _ _ => False) ∧
      ∀ base : Heap, K.In base → base.Ns mainGlobals mg → (∀ p ∈ cs, TabB base mg p.1 p.2) → FnOkG l.prog w K mg base CX0 k fa fd [x] sp) :
    PySem.W.WalkO q loose XP YP l.row.toRowW d [] (fun f vs => PySem.call f vs) := by
  refine Att.attach_callB hn hdf fun w s₀ s₁ mg mb fa o pm cd doc a vs ns G Y ho hd hcd hmg hobj hints hlen hbits hg => ?_
  obtain ⟨K, fd, cs, sp, KX, tab, hb, hsp, hF⟩ := F w mg fa _ Y G.T.g hmg
  exact law_callG KX G.T.g G.T.b G.T.builtins G.T.nolimit hg tab G.T.bmain hobj hints (Nat.le_trans hlen hn2) hr rfl hF hb fun H hH hS => hsp H a ns hH hS
end Ev
set_option Elab.async false
set_option linter.all false
set_option maxRecDepth 100000
set_option maxHeartbeats 2000000
/-! EX1: an own exception class whose __init__ says super().__init__(text), then self.f = f: what it leaves. -/
namespace SupX
open PySem PySem.W PySem.Calls PyProof.Rows PySem.HandSPX
/-- what the written part says of the class at C, its __init__ at fI, that one's code object at cda and cell at cc -/
structure SupTxt (prog : Program) (K : Frag) (C fI cda cc : Addr) (qual : Str) (params : Arguments) (body : List Stmt) (scope : Scope) (f : Str) : Prop where
  cls : ∃ nm q N bs bm sn sub ab col dd k0 k1 k2 k3 k5, K.lookup C = some (excClassObj nm q C N bs bm true sn sub ab col dd k0 k1 k2 k3 k5 "ValueError.__new__") ∧ refsVE bm = true
  sa : findIn K (.ref C) "__setattr__" = some (some (.builtin "object.__setattr__"))
  noN : findIn K (.ref C) f = some none
  sup : ks_superIn K C C "__init__" = some (some (.builtin "ValueError.__init__"))
  subC : subIn K (.ref C) (.ref C) = some true
  subV : subIn K (.ref C) (.type "ValueError") = some true
  opq : nsIn K cStatics "thirdparty.any" = some none
  fn : ∃ (oc : Value) (od : Option Addr) (doc pm : Value) (an : Option Addr) (ct : Value) (osl : Array (Option Value)), K.lookup fI = some ⟨oc, od, .func (ksFn "__init__" qual params body scope .none .none doc pm an (.ref cda) ct cc), osl⟩
  code : ∃ (ccl : Value) (cdd : Option Addr) (vs : Array Value) (ccs : Array (Option Value)) (file : Str) (tf : Tok), K.lookup cda = some ⟨ccl, cdd, .fields vs, ccs⟩ ∧ vs[2]? = some (.str file tf) ∧ ((prog.main.file : Str) == file) = true
  cd : codeIn K (.ref cda) qual = true
  cell : ∃ (cl : Value) (cld : Option Addr) (csl : Array (Option Value)), K.lookup cc = some ⟨cl, cld, .cell (some (.ref C)), csl⟩
  sg : nsIn K mainGlobals "super" = some none
  top : (prog.main.scope.names.lookup ("super" : Str)).isSome = false
section
variable {prog : Program} {w : World} {M : Model} {A : Around} {E : Value → Shared → Prop} {h : Heap} {g : Array GenState} {d : Drawn} {t : Nat} {os : OsState}
variable {nm q : Str} {C N : Addr} {bs bm : List Value} {hdct : Bool} {sn : List Str} {sub : List Value} {ab : Bool} {col : Option Bool} {dd : Option Addr} {k0 k1 k2 k3 k5 : Option Value}
theorem call_mw {u e t0 : Addr} {rest : List Value} {Q : Value → Shared → Prop}
    (hC : h.get? C = some (excClassObj nm q C N bs bm hdct sn sub ab col dd k0 k1 k2 k3 k5 "ValueError.__new__")) (he : h.get? e = some (excO C t0)) (hu : h.get? u = some (kxs_mw "ValueError.__init__" e)) (hrest : rest.length ≤ sizeLine)
    (hq : ∀ h' t1, (∀ b o, b ≠ e → h.get? b = some o → h'.get? b = some o) → h'.get? e = some (excO C t1) → Q .none ⟨h', g, d, t, os⟩) :
    wpAny (model prog w) A (call (.ref u) rest) Q E ⟨h, g, d, t, os⟩ := by
  refine wpAny_call (codeAny_of_tree ?_)
  show wpAny _ A.in1 (callAny (.ref u) ⟨rest, []⟩) _ _ _
  simp only [callAny]
  refine wpAny_bind (wpAny_load hu ?_)
  simp only [kxs_mw, show (Value.type "method-wrapper" == Value.type "method" || Value.type "method-wrapper" == Value.type "builtin_function_or_method" || Value.type "method-wrapper" == Value.type "method-wrapper") = true by decide, if_true]
  refine W.KFB.if_so (by decide) ?_
  refine wpAny_bind (ESX.check_bound F.excBase_ValueError hC he rfl ?_)
  refine wpAny_bind (wpAny_pure (wpAny_pure ?_))
  refine ⟨Code.quiet_builtin _ (by decide +kernel), codeAny_builtin F.excBase_ValueError.initEntry ?_⟩
  rw [Around.under_plainId F.excBase_ValueError.init.plain _]
  wp_walk
  refine hq _ h.objs.size (fun b o hb ho => ?_) ?_
  · rw [Heap.get?_update_other _ _ (Ne.symm hb)]
    exact Heap.get?_push_of_some _ ho
  · rw [Heap.get?_update_self _ (Heap.get?_push_of_some _ he) rfl]
    rfl
theorem callWith_mw {i : String} {s : Shared} {pos : Pos} {u x : Addr} {env : Env} {e : Expr} {rest : List Expr} {Q : Value → Shared → Prop}
    (h : wpAny M A (spliced (backTo pos (starEach (e :: rest) env))) (fun vs s₁ => s₁.heap.get? u = some (kxs_mw i x) ∧ wpAny M A (call (.ref u) vs) Q E s₁) E s)
    (he : starEach (e :: rest) env = (false, eval e env) :: starEach rest env := by rfl) (hplain : (backTo pos (starEach rest env)).any (·.1) = false := by rfl) :
    wpAny M A (callWith pos (.ref u) [] (backTo pos (starEach (e :: rest) env)) []) Q E s := by
  rw [he] at h ⊢
  refine kxs_callWith (i := i) (x := x) (by show (false || (backTo pos (starEach rest env)).any (·.1)) = false; rw [hplain]; rfl) ?_
  exact evalArgs_plain h
end
/-- what __init__ leaves of a fresh exception at x -/
structure InitEnd (h h' : Heap) (x C dx t1 : Addr) (f : Str) (v : Value) : Prop where
  keep : ∀ b o, b ≠ x → h.get? b = some o → h'.get? b = some o
  obj : h'.get? x = some { cls := .ref C, dict := some dx, data := .fields #[.ref t1, .none, .none, .none, .bool false, .none] }
  dbig : h.objs.size ≤ dx
  dne : dx ≠ x
  ns : h'.Ns1 dx (fun y => if y = f then some v else none)
/-- the text: super().__init__(text), self.f = f -/
def iB (f text : Str) (k : Nat) (a1 a2 a3 a4 a5 a6 q1 q2 q3 q4 : Pos) : List Stmt := [.Expr (.Call (.Attribute (.Call (.Name "super" a1) [] [] a2) "__init__" a3) [.Constant (.str text) k a4] [] a5) a6, .Assign [.Attribute (.Name "self" q1) f q2] (.Name f q3) q4]
abbrev iS (f : Str) : Scope := { kind := .function, names := [(("self" : Str), .local), (f, .local), (("__class__" : Str), .free), (("super" : Str), .globalImplicit)], isGenerator := false, isCoroutine := false, more := [] }
structure SupS (params : Arguments) (scope : Scope) (f : Str) : Prop where
  bind : ∀ (qual : Str) (body : List Stmt) (doc pm : Value) (an : Option Addr) (cdv ct : Value) (cc : Addr) (a b : Value), bindArgs (ksFn "__init__" qual params body scope .none .none doc pm an cdv ct cc) ⟨[a, b], []⟩ = pure [(("self" : Str), a), (f, b)]
  sup : scope.names.lookup ("super" : Str) = some .globalImplicit
  cl : scope.names.lookup ("__class__" : Str) = some .free
  self : scope.names.lookup ("self" : Str) = some .local
  fld : scope.names.lookup f = some .local
  nc : ∀ x ∈ scope.names, x.2 ≠ .cell
  kind : scope.kind = .function
  co : scope.isCoroutine = false
  gen : scope.isGenerator = false
  par : ∃ ar, (params.posonlyargs ++ params.args).head? = some ar ∧ ar.arg = "self"
  ne : (("self" : Str) == f) = false
  dbg : (f == ("__debug__" : Str)) = false
section
variable {prog : Program} {w : World} {A : Around} {E : Value → Shared → Prop} {R : Result → Shared → Prop} {s : Shared} {K : Frag} {mg : Str → Option Value} {C fI cda cc : Addr} {qual f text : Str} {base : Heap} {params : Arguments}
theorem own_init {a1 a2 a3 a4 a5 a6 q1 q2 q3 q4 : Pos} {k : Nat} (T : SupTxt prog K C fI cda cc qual params (iB f text k a1 a2 a3 a4 a5 a6 q1 q2 q3 q4) (iS f) f) (S : SupS params (iS f) f) (hm : L2.Mod K mg base) (kb : ∀ b o, base.get? b = some o → s.heap.get? b = some o)
    {x t0 : Addr} {v : Value} (X : K.In s.heap) (hlim : s.heap.NoLimit) (hx : s.heap.get? x = some (excO C t0)) (hnx : K.lookup x = none) (hroom : A.depth < recursionLimit)
    {pl : Env → Sem Bool} (hc : ∀ env, eval (.Call (.Attribute (.Call (.Name "super" a1) [] [] a2) "__init__" a3) [.Constant (.str text) k a4] [] a5) env = (do
      let ov ← attributeBase (.Call (.Name "super" a1) [] [] a2) "__init__" env (eval (.Call (.Name "super" a1) [] [] a2) env)
      standAt a3.atName
      let (f, first) ← holding [ov] (getMethod ov "__init__" (pl env))
      callWith a5 f first (backTo a5 (starEach [.Constant (.str text) k a4] env)) []))
    (hq : ∀ h' tk dx t1, InitEnd s.heap h' x C dx t1 f v → R (.ok (.ret .none)) { s with heap := h', toks := tk }) :
    codeAny (model prog w) A (.call (.ref fI) ⟨[.ref x, v], []⟩) R s := by
  obtain ⟨oc, od, doc, pm, an, ct, osl, ho⟩ := T.fn
  obtain ⟨ccl, cdd, vs, ccs, file, tf, hcode, hvs, hfile⟩ := T.code
  obtain ⟨cl, cld, csl, hcell⟩ := T.cell
  obtain ⟨nm, q, N, bs, bm, sn, sub, ab, col, dd, k0, k1, k2, k3, k5, hC, hbm⟩ := T.cls
  obtain ⟨ar, har, hself⟩ := S.par
  have hcl : clsIn K C = some { name := nm, bases := bs, mro := .ref C :: bm, ns := N, qualname := q, hasDict := true, slotNames := sn, subclasses := sub, abstract := ab, collection := col, hasDel := false } := by unfold clsIn; rw [hC] <;> rfl
  refine ks_codeAny_call_defAt (fd := ksFn "__init__" qual params (iB f text k a1 a2 a3 a4 a5 a6 q1 q2 q3 q4) (iS f) .none .none doc pm an (.ref cda) ct cc) (body := iB f text k a1 a2 a3 a4 a5 a6 q1 q2 q3 q4) (binds := [(("self" : Str), .ref x), (f, v)]) hroom (X _ _ ho) rfl hlim (codeRec_of X T.cd) rfl
    (BindsTo.of_eq (S.bind ..)) S.nc (fun y hy => ?_) (fun h₁ hns kk => ?_) S.co S.gen S.kind
  · rcases List.mem_cons.mp hy with rfl | hy
    · exact S.self
    · rcases List.mem_cons.mp hy with rfl | hy
      · exact S.fld
      · cases hy
  obtain ⟨hp, g, dr, tk, os⟩ := s
  have X₁ : K.In h₁ := X.keeps kk
  have hx₁ := kk _ _ hx
  have hlt : x < hp.objs.size := Heap.lt_size hx
  have b1 : ([(("self" : Str), Value.ref x), (f, v)] : List (Str × Value)).reverse.lookup ("self" : Str) = some (.ref x) := by
    show List.lookup _ [(f, v), (("self" : Str), Value.ref x)] = _
    simp [List.lookup, S.ne]
  have b2 : ([(("self" : Str), Value.ref x), (f, v)] : List (Str × Value)).reverse.lookup f = some v := by
    show List.lookup _ [(f, v), (("self" : Str), Value.ref x)] = _
    simp [List.lookup]
  -- super().__init__(text)
  show _root_.PySem.wpAt _ _ _ (execs (iB f text k a1 a2 a3 a4 a5 a6 q1 q2 q3 q4) (ksEnv qual (iS f) hp.objs.size fI (.ref cda) cc)) _ _ _
  unfold iB
  refine ks_wpAt_execs_cons (ks_wpAt_Expr_any (ks_wpAt_MethodCall (he := hc _) ?_))
  have I1 : InstAt h₁ x (excO C t0) C none := ⟨hx₁, rfl, rfl, trivial⟩
  obtain ⟨oD, hD1, hD2⟩ : ∃ oD, h₁.get? C = some oD ∧ oD.data = .cls { name := nm, bases := bs, mro := .ref C :: bm, ns := N, qualname := q, hasDict := true, slotNames := sn, subclasses := sub, abstract := ab, collection := col, hasDel := false } := ⟨_, X₁ _ _ hC, rfl⟩
  obtain ⟨mb, hb1, hb2⟩ := hm.blt
  have kb1 : ∀ b o, base.get? b = some o → h₁.get? b = some o := fun b o e => kk _ _ (kb _ _ e)
  refine ks_wpAt_super_base (env := ksEnv qual (iS f) hp.objs.size fI (.ref cda) cc) S.sup S.cl (by decide) rfl (X₁ _ _ ho) rfl har rfl (X₁ _ _ hcode) rfl hvs hfile T.top ?_
  refine ks_loadName_global S.kind S.sup (loadGlobal_builtin (env := ksEnv qual (iS f) hp.objs.size fI (.ref cda) cc) (hm.glob.keeps kb1) (mg_none_of hm.kin hm.glob T.sg) (hb1.keeps kb1) ((hb2 _ (by decide)).trans PyProof.Rows.Boot.«super») ⟨rfl, ?_⟩)
  refine wpAny_loadName_free S.kind S.cl rfl ⟨_, X₁ _ _ hcell, rfl⟩ ?_
  rw [hself]
  refine wpAny_loadName_local S.kind S.self hns b1 ?_
  refine ks_wpAny_isType_cls hD1 hD2 ⟨rfl, ?_⟩
  refine ks_wpAny_call_super hD1 hD2 hx₁ rfl (fun c e => by cases e) (looks_subIn X₁ T.subC) (fun h2 e2 k2 => ?_)
  have X₂ : K.In h2 := X₁.keeps k2
  have hx2 := k2 _ _ hx₁
  have I2 : InstAt h2 x (excO C t0) C none := ⟨hx2, rfl, rfl, trivial⟩
  have hsup := T.sup
  unfold ks_superIn at hsup
  rw [hcl] at hsup
  have xC : x ≠ C := ks_ne X₁ I1 hcl
  refine kxs_getMethod (K := K) (l₀ := .ref C :: bm) kxs_ValueError e2 (looks_opaque X₂ T.opq) (fun A Q E s kp q => wpAny_bind ((looks_clsIn X₂ hcl) A _ E s kp (wpAny_pure q))) rfl X₂ hsup (I2.type.andThen (looks_subIn X₂ T.subV)) xC (by decide) ?_
  -- the call
  have k3 : ∀ b o, h2.get? b = some o → (h2.push (kxs_mw "ValueError.__init__" x)).get? b = some o := fun b o e => Heap.get?_push_of_some _ e
  have hu : ∀ (s' : Shared), True := fun _ => trivial
  refine callWith_mw (i := "ValueError.__init__") (x := x) ?_
  show wpAny _ _ (spliced ((false, eval (.Constant (.str text) k a4) (ksEnv qual (iS f) hp.objs.size fI (.ref cda) cc)) :: backTo a5 (starEach [] (ksEnv qual (iS f) hp.objs.size fI (.ref cda) cc)))) _ _ _
  refine Calls.spliced_cons (wpAny_Constant_str (k := k) (pos := a4) ?_)
  refine Calls.spliced_nil ⟨Heap.get?_push_size _ rfl, ?_⟩
  refine call_mw (k3 _ _ (X₂ _ _ hC)) (k3 _ _ hx2) (Heap.get?_push_size _ rfl) (by rw [sizeLine_eq]; exact (by decide : 1 ≤ 16777216)) fun h4 t1 k4 hx4 => ?_
  -- self.f = f
  have k14 : ∀ b o, b ≠ x → h₁.get? b = some o → h4.get? b = some o := fun b o hb e => k4 b o hb (k3 _ _ (k2 _ _ e))
  have X₄ : K.In h4 := fun a o e => k4 a o (fun z => by rw [z, hnx] at e; cases e) (k3 _ _ (X₂ _ _ e))
  have hns4 : h4.Ns hp.objs.size fun y => ([(("self" : Str), Value.ref x), (f, v)] : List (Str × Value)).reverse.lookup y := by
    obtain ⟨oL, es, ep, hL, r⟩ := hns
    exact ⟨oL, es, ep, k14 _ _ (Nat.ne_of_gt hlt) hL, r⟩
  refine ks_wpAt_execs_cons (wpAt_of_wpAny (plainObj_wpAny_Assign_Attribute ?_ rfl))
  refine wpAny_Name (wpAny_loadName_local S.kind S.fld hns4 b2 ?_) S.dbg
  refine wpAny_Name (wpAny_loadName_local S.kind S.self hns4 b1 ?_) (by decide)
  refine set_plain X₄ (ox := excO C t1) (od := none) ⟨hx4, rfl, rfl, trivial⟩ T.sa ?_
  refine exc_osa X₄ hx4 hcl (show refsVE (.ref C :: bm) = true from hbm) rfl T.noN (fun h5 tk5 dx k5 dn dne hx5 hn5 => ?_)
  refine wpAt_of_wpAny (wpAny_execs_nil ?_)
  have old : ∀ b o, b ≠ x → hp.get? b = some o → h5.get? b = some o := fun b o hb e => k5 b o hb (k14 b o hb (kk _ _ e))
  refine hq h5 tk5 dx t1 ⟨old, hx5, ?_, dne, hn5⟩
  have z : hp.objs.size < h4.objs.size := hns4.lt
  exact Nat.le_of_lt (Nat.lt_of_lt_of_le z dn)
end
end SupX
set_option Elab.async false
set_option linter.all false
set_option maxRecDepth 100000
set_option maxHeartbeats 2000000
/-! EX2: such an exception is made, raised. -/
namespace SupX
open PySem PySem.W PySem.Calls PyProof.Rows PySem.HandSPX
/-- the class, as the module tells it -/
structure SupCls (prog : Program) (K : Frag) (mg : Str → Option Value) (cn : Str) (C fI cda cc : Addr) (qual : Str) (params : Arguments) (body : List Stmt) (f : Str) : Prop where
  txt : SupTxt prog K C fI cda cc qual params body (iS f) f
  sc : SupS params (iS f) f
  iC : findIn K (.ref C) "__init__" = some (some (.ref fI))
  tC : typeIn K (.ref fI) = some (.type "function")
  kC : keepIn K (.ref C) = true
  exC : subIn K (.ref C) (.type "BaseException") = some true
  tyC : typeIn K (.ref C) = some (.type "type")
  gC : mg cn = some (.ref C)
structure OwnMade (h h' : Heap) (e C d : Addr) (f : Str) (v : Value) : Prop where
  keep : ∀ b o, h.get? b = some o → h'.get? b = some o
  new : h.objs.size ≤ e
  obj : ∃ oe vs, h'.get? e = some oe ∧ oe.cls = .ref C ∧ oe.dict = some d ∧ oe.data = .fields vs ∧ vs[1]? = some .none
  dbig : h.objs.size ≤ d
  dne : d ≠ e
  ns : h'.Ns1 d (fun y => if y = f then some v else none)
theorem one_size (v : Value) : [v].length ≤ sizeLine := by
  rw [sizeLine_eq]
  exact (by decide : 1 ≤ 16777216)
/-- how the text's call of super().__init__ is read -/
def Reads (text : Str) (k : Nat) (a1 a2 a3 a4 a5 : Pos) (pl : Env → Sem Bool) : Prop := ∀ env, eval (.Call (.Attribute (.Call (.Name "super" a1) [] [] a2) "__init__" a3) [.Constant (.str text) k a4] [] a5) env = (do
      let ov ← attributeBase (.Call (.Name "super" a1) [] [] a2) "__init__" env (eval (.Call (.Name "super" a1) [] [] a2) env)
      standAt a3.atName
      let (f, first) ← holding [ov] (getMethod ov "__init__" (pl env))
      callWith a5 f first (backTo a5 (starEach [.Constant (.str text) k a4] env)) [])
section
variable {prog : Program} {w : World} {A : Around} {E : Value → Shared → Prop} {R : Result → Shared → Prop} {s : Shared} {K : Frag} {mg : Str → Option Value} {C fI cda cc : Addr} {cn qual f text : Str} {base : Heap} {params : Arguments}
theorem own_made {a1 a2 a3 a4 a5 a6 q1 q2 q3 q4 : Pos} {k : Nat} (T : SupCls prog K mg cn C fI cda cc qual params (iB f text k a1 a2 a3 a4 a5 a6 q1 q2 q3 q4) f) (hm : L2.Mod K mg base) (kb : ∀ b o, base.get? b = some o → s.heap.get? b = some o)
    {v : Value} (X : K.In s.heap) (hlim : s.heap.NoLimit) (hroom : A.depth + 1 < recursionLimit) {pl : Env → Sem Bool} (hc : Reads text k a1 a2 a3 a4 a5 pl)
    (hq : ∀ h' tk e d, OwnMade s.heap h' e C d f v → R (.ok (.ret (.ref e))) { s with heap := h', toks := tk }) :
    codeAny (model prog w) A (.call (.ref C) ⟨[v], []⟩) R s := by
  obtain ⟨nm, q, N, bs, bm, sn, sub, ab, col, dd, k0, k1, k2, k3, k5, hC, hbm⟩ := T.txt.cls
  obtain ⟨hp, g, dr, tk, os⟩ := s
  have kk : ∀ b o, hp.get? b = some o → ((hp.push (kdv_tup [v])).push (excO C hp.objs.size)).get? b = some o := fun b o e => Heap.get?_push_of_some _ (Heap.get?_push_of_some _ e)
  have hget : ((hp.push (kdv_tup [v])).push (excO C hp.objs.size)).get? (hp.objs.size + 1) = some (excO C hp.objs.size) := by heap_get
  have hnx : K.lookup (hp.objs.size + 1) = none := by
    cases e : K.lookup (hp.objs.size + 1) with
    | none => rfl
    | some o =>
      have z : hp.get? (hp.objs.size + 1) = some o := X _ _ e
      exact absurd (Nat.lt_of_succ_lt (Heap.lt_size z)) (Nat.lt_irrefl _)
  refine call_own F.excBase_ValueError (fun X => refsVE_contains X bm hbm) (X _ _ hC) (looks_findIn X T.iC) (fun self => bind_fn X self T.tC) (one_size v) ?_
  refine own_init (s := ⟨(hp.push (kdv_tup [v])).push (excO C hp.objs.size), g, dr, tk, os⟩) T.txt T.sc hm (fun b o e => kk _ _ (kb _ _ e)) (X.keeps kk) (hlim.keeps kk) hget hnx ?_ hc fun h' tk' dx t1 ⟨k', hx, dn, dne, hns⟩ => ?_
  · show A.depth + 1 < recursionLimit
    exact hroom
  · have old : ∀ b o, hp.get? b = some o → h'.get? b = some o := fun b o e => k' b o (Nat.ne_of_lt (Nat.lt_succ_of_lt (Heap.lt_size e))) (kk b o e)
    have z : hp.objs.size + 1 + 1 ≤ dx := by
      first
        | (simpa only [Heap.size_push] using dn)
        | exact dn
        | (have q := dn; rw [Heap.size_push, Heap.size_push] at q; exact q)
    exact ⟨rfl, hq h' tk' (hp.objs.size + 1) dx ⟨old, Nat.le_succ _, ⟨_, _, hx, rfl, rfl, rfl, rfl⟩, Nat.le_trans (Nat.le_trans (Nat.le_succ _) (Nat.le_succ _)) z, dne, hns⟩⟩
end
end SupX
namespace L2
open PySem PySem.Spec PyProof.Rows SupX
theorem relO_one {v : V} {v' : Value} {fn : Str} (r : RelV v v') (f : Str) : RelO (List.lookup f [(fn, v)]) (if f = fn then some v' else none) := by
  by_cases hw : f = fn
  · subst hw
    rw [if_pos rfl]
    have q : List.lookup f [(f, v)] = some v := by simp [List.lookup]
    rw [q]
    exact r
  · rw [if_neg hw]
    have qw : (f == fn) = false := by simpa using hw
    have q2 : List.lookup f [(fn, v)] = none := by simp [List.lookup, qw]
    rw [q2]
    trivial
section
variable {X : Cx} {C fI cda cc : Addr} {cn qual f text : Str} {params : Arguments}
/-- C(e) -/
def tMkS (C : Addr) (f : Str) (ta : TA) : St → Hp → XK → Prop := fun σ H Q => ta σ H fun vs H1 => ∃ v, vs = [v] ∧ ∀ d, H1 d = none → Q (.ref C) (some d) (upd H1 d (.xd [(f, v)]))
theorem pmk_sup {a : Expr} {ta : TA} {p pos : Pos} {j : Nat} {a1 a2 a3 a4 a5 a6 q1 q2 q3 q4 : Pos} {k : Nat} (T : SupCls X.prog X.K X.mg cn C fI cda cc qual params (iB f text k a1 a2 a3 a4 a5 a6 q1 q2 q3 q4) f) {pl : Env → Sem Bool} (hc : Reads text k a1 a2 a3 a4 a5 pl) (hr : Room j X.A) (ha : PA X [a] ta) (hg : Gl X cn)
    (hdb : (cn == ("__debug__" : Str)) = false := by decide) (he : starEach (a :: []) X.env = (false, eval a X.env) :: starEach [] X.env := by rfl) (hpl : (backTo pos (starEach [] X.env)).any (·.1) = false := by rfl) :
    PMk X (.Call (.Name cn p) [a] [] pos) (tMkS C f ta) := by
  intro pins s σ H Q I h
  refine wpAny_Call_Name_kw (ld_glob I hg T.gC ?_ hdb)
  refine PySem.W.callWith_K (h₀ := X.base) I.ok.mod.kin T.kC (thn (ha.run pos pins s σ H _ I h) fun us s1 hh => ?_) he hpl
  obtain ⟨vs, H1, I1, r1, v, ev, q1⟩ := hh
  subst ev
  refine ⟨I1.kIn, ?_⟩
  cases r1 with
  | cons rv rn =>
    rename_i v' us'
    cases rn
    show wpAny _ _ (call (.ref C) [v']) _ _ _
    have hlim := I1.nolimit
    have kb : ∀ b o, X.base.get? b = some o → s1.heap.get? b = some o := I1.bk
    obtain ⟨hp, g, dr, tk, os⟩ := s1
    refine wpAny_call (own_made T I1.ok.mod kb I1.kIn hlim (by have := hr.dp; omega) hc fun h' tk' e d M => ?_)
    show MkP X pins σ Q (.ref e) ⟨h', g, dr, tk', os⟩
    obtain ⟨oe, fv, hoe, hc, hd, hdat, h1⟩ := M.obj
    have hns := M.ns
    obtain ⟨G', g1, g2⟩ := restrict h' fun b => decide (b ≠ e)
    have gk : ∀ b, b ≠ e → G'.get? b = h'.get? b := fun b hb => g1 b (decide_eq_true hb)
    have ge : G'.get? e = none := g2 e (by simp)
    have old : ∀ b o, hp.get? b = some o → G'.get? b = some o := fun b o q => (gk b (Nat.ne_of_lt (Nat.lt_of_lt_of_le (Heap.lt_size q) M.new))).trans (M.keep b o q)
    have ob : ObjOk X.prog X.w (upd H1 d (.xd [(f, v)])) G' d (.xd [(f, v)]) :=
      ⟨_, hns.at (fun o q => (gk d M.dne).trans q), fun y => relO_one rv y⟩
    have J : Inv X pins σ (upd H1 d (.xd [(f, v)])) ⟨G', g, dr, tk', os⟩ := I1.laid (t' := tk') old M.dbig ob
    refine ⟨e, oe, fv, ⟨G', g, dr, tk', os⟩, _, .ref C, some d, rfl, J, fun b o q => ?_, ge, hoe, ⟨hc, hd⟩, hdat, h1, ?_, rfl, I1.bare, raises_own T.exC T.tyC, q1 d (I1.hok.fresh M.dbig)⟩
    · by_cases hb : b = e
      · have q' : G'.get? b = some o := q
        rw [hb, ge] at q'; cases q'
      · exact (gk b hb).symm.trans q
    · rw [upd_ne (Ne.symm M.dne)]
      exact I1.hok.fresh M.new
/-- raise C(e) -/
def tRaiseS (C : Addr) (f : Str) (W : WX) (ta : TA) : TS := fun _ σ H => tMkS C f ta σ H fun cls d H' => W cls d σ H'
theorem ps_raiseS {a : Expr} {ta : TA} {W : WX} {p pos pos2 : Pos} {j : Nat} {a1 a2 a3 a4 a5 a6 q1 q2 q3 q4 : Pos} {k : Nat} (hcm : X.calm = true) (T : SupCls X.prog X.K X.mg cn C fI cda cc qual params (iB f text k a1 a2 a3 a4 a5 a6 q1 q2 q3 q4) f) {pl : Env → Sem Bool} (hc : Reads text k a1 a2 a3 a4 a5 pl) (hr : Room j X.A) (tk : Takes X W) (ha : PA X [a] ta) (hg : Gl X cn)
    (hdb : (cn == ("__debug__" : Str)) = false := by decide) (he : starEach (a :: []) X.env = (false, eval a X.env) :: starEach [] X.env := by rfl) (hpl : (backTo pos (starEach [] X.env)).any (·.1) = false := by rfl) :
    PS X (.Raise (some (.Call (.Name cn p) [a] [] pos)) none pos2) (tRaiseS C f W ta) := ps_raise hcm tk (pmk_sup T hc hr ha hg hdb he hpl)
end
end L2
namespace L2
open PySem PySem.Spec PyProof.Rows SupX
/-- the text of __init__ -/
def IsInit (body : List Stmt) (f : Str) : Prop := ∃ (text : Str) (k : Nat) (a1 a2 a3 a4 a5 a6 q1 q2 q3 q4 : Pos) (pl : Env → Sem Bool), body = iB f text k a1 a2 a3 a4 a5 a6 q1 q2 q3 q4 ∧ Reads text k a1 a2 a3 a4 a5 pl
theorem ps_raiseI {X : Cx} {C fI cda cc : Addr} {cn qual f : Str} {params : Arguments} {body : List Stmt} {a : Expr} {ta : TA} {W : WX} {p pos pos2 : Pos} {j : Nat} (ib : IsInit body f) (T : SupCls X.prog X.K X.mg cn C fI cda cc qual params body f) (hcm : X.calm = true) (hr : Room j X.A) (tk : Takes X W) (ha : PA X [a] ta) (hg : Gl X cn)
    (hdb : (cn == ("__debug__" : Str)) = false := by decide) (he : starEach (a :: []) X.env = (false, eval a X.env) :: starEach [] X.env := by rfl) (hpl : (backTo pos (starEach [] X.env)).any (·.1) = false := by rfl) :
    PS X (.Raise (some (.Call (.Name cn p) [a] [] pos)) none pos2) (tRaiseS C f W ta) := by
  obtain ⟨text, k, a1, a2, a3, a4, a5, a6, q1, q2, q3, q4, pl, rfl, hc⟩ := ib
  exact ps_raiseS hcm T hc hr tk ha hg hdb he hpl
end L2
set_option Elab.async false
set_option linter.all false
set_option maxRecDepth 100000
/-! EX3: what a check raises. -/
namespace Ev
open PySem PySem.Spec PyProof.Rows L2
theorem ifF {c : Bool} {P Q : Prop} (h : c = false) (q : Q) : if c = true then P else Q := by rw [h, if_neg (by decide)]; exact q
theorem ifT {c : Bool} {P Q : Prop} (h : c = true) (q : P) : if c = true then P else Q := by rw [h, if_pos rfl]; exact q
/-- for x in several: if test: raise C(x) -/
def tCheckL (K : Frag) (G : Hp) (cs : CS) (it : IT) (C : Addr) (fld : Str) (W : WX) : TS :=
  tSeq (tFor (iList K (tVar 0)) (gName 1) (tSeq (tIfS (tEvT K [] G cs it) (tSeq (tRaiseS C fld W (tCons (tVar 1) tNil)) tNext) tNext) tNext)) tNext
theorem checkL_read {K : Frag} {cs : CS} {it : IT} {C : Addr} {fld : Str} {W : WX} {D : Ends} {H F : Hp} {a : Addr} {ws : List V} {ds : List PyData} {p : PyData → Bool} {u : Option V} (hS : SqL K H a ws) (sF : Same F H) (hd : DnA K F ws ds)
    (ht : ∀ d ∈ ds, evT cs it [none, some (.imm d)] = some (!p d, [none, some (.imm d)]))
    (hpass : ds.all p = true → ∀ σ' H', Same H H' → D.nx σ' H')
    (hraise : ∀ (j : Nat) (v : V) (d : PyData), ws[j]? = some v → ds[j]? = some d → p d = false → (∀ i d', i < j → ds[i]? = some d' → p d' = true) → ∀ (σ' : L2.St) (H' : Hp) (dd : Addr), Same H H' → H' dd = none → W (.ref C) (some dd) σ' (upd H' dd (.xd [(fld, v)]))) :
    tCheckL K H cs it C fld W D [some (.ref a), u] H := by
  refine ⟨_, rfl, a, rfl, ⟨ws, hS⟩, for_list (K := K) (a := a) (xs := ws) (fun i σ H' => (∃ u, σ = [some (V.ref a), u]) ∧ Same H H' ∧ ∀ k d', k < i → ds[k]? = some d' → p d' = true) ⟨⟨u, rfl⟩, .refl _, fun k d' hk => absurd hk (by omega)⟩ (fun i σ H' _ ⟨_, s, _⟩ => s.seq hS) ?_ ?_⟩
  · rintro i y σ H' hi ⟨⟨u, rfl⟩, s, hp⟩
    obtain ⟨d, hdi, hdn⟩ := hd.get' hi
    have R : Rel K [] H F H' [some (V.ref a), some y] [none, some (.imm d)] := by
      refine ⟨s, sF.trans s, fun j e q => ?_, fun j xs q => ?_, fun j k xs ys b q1 => ?_, (fun q hq => by cases hq), rfl⟩
      · match j with
        | 0 => simp [getE] at q
        | 1 =>
          simp [getE] at q
          subst q
          exact ⟨y, rfl, hdn⟩
        | j + 2 => simp [getE] at q
      · match j with
        | 0 => simp [getE] at q
        | 1 => simp [getE] at q
        | j + 2 => simp [getE] at q
      · match j with
        | 0 => simp [getE] at q1
        | 1 => simp [getE] at q1
        | j + 2 => simp [getE] at q1
    refine ⟨F, _, _, _, R, ht d (List.mem_of_getElem? hdi), fun F' H2 x R2 => ?_⟩
    by_cases hpd : p d = true
    · refine ifF (by rw [hpd]; rfl) ?_
      refine ⟨⟨_, rfl⟩, R2.frm, fun k d' hk e => ?_⟩
      rcases Nat.lt_or_ge k i with z | z
      · exact hp k d' z e
      · obtain rfl : k = i := by omega
        rw [hdi] at e; cases e
        exact hpd
    · have hpd : p d = false := by simpa using hpd
      refine ifT (by rw [hpd]; rfl) ?_
      exact ⟨y, rfl, y, rfl, fun dd hdd => hraise i y d hi hdi hpd hp _ H2 dd R2.frm hdd⟩
  · rintro σ H' ⟨_, s, hp⟩
    refine hpass (List.all_eq_true.mpr fun d hdm => ?_) _ _ s
    obtain ⟨k, hk⟩ := List.getElem?_of_mem hdm
    exact hp k d (by rw [hd.len]; exact (List.getElem?_eq_some_iff.mp hk).1) hk
/-- the promise of such a check: it is passed, or raised with the first one that is not right -/
def spCL (K : Frag) (p : PyData → Bool) (C : Addr) (fld : Str) : Sp := fun vs H Q E => ∃ (a : Addr) (ws : List V) (F : Hp) (ds : List PyData), vs = [.ref a] ∧ SqL K H a ws ∧ Same F H ∧ DnA K F ws ds ∧ (ds.all p = true → ∀ H', Same H H' → Q .non H') ∧
  ∀ (j : Nat) (v : V) (d : PyData), ws[j]? = some v → ds[j]? = some d → p d = false → (∀ i d', i < j → ds[i]? = some d' → p d' = true) → ∀ (H' : Hp) (dd : Addr), Same H H' → H' dd = none → E (.ref C) (some dd) (upd H' dd (.xd [(fld, v)]))
theorem checkL_fn {K : Frag} {cs : CS} {it : IT} {C : Addr} {fld : Str} {p : PyData → Bool} {N : List Str} (hN : N.length = 2) (ht : ∀ d, evT cs it [none, some (.imm d)] = some (!p d, [none, some (.imm d)])) {vs : List V} {H : Hp} {Q : VK} {E : XK} (h : spCL K p C fld vs H Q E) :
    tCheckL K H cs it C fld (fun cls d _ H => E cls d H) { nx := fun _ H' => Q .non H', rt := Q } (L2.start N vs) H := by
  obtain ⟨a, ws, F, ds, rfl, hS, sF, hd, hp, hr⟩ := h
  have e : L2.start N [V.ref a] = [some (V.ref a), none] := by
    unfold L2.start
    rw [hN]; rfl
  rw [e]
  exact checkL_read hS sF hd (fun d _ => ht d) (fun ha _ H' s => hp ha H' s) fun j v d h1 h2 h3 h4 _ H' dd s hn => hr j v d h1 h2 h3 h4 H' dd s hn
end Ev
set_option Elab.async false
set_option linter.all false
set_option maxRecDepth 100000
/-! EX4: what a function of the package raises: the very argument in the exception's field. -/
namespace Ev
open PySem PySem.Spec PyProof.Rows L2
/-- raised: an exception of the class at C, its field fld is the k-th argument; B: for which arguments -/
def spA (K : Frag) (np : Nat) (B : List PyData → Nat → Prop) (C : Addr) (fld : Str) : Sp := fun vs H Q E => ∃ (F : Hp) (ds : List PyData) (k : Nat) (v : V), Same F H ∧ DnA K F vs ds ∧ vs.length = np ∧ B ds k ∧ vs[k]? = some v ∧
  ∀ (H' : Hp) (dd : Addr), Same H H' → H' dd = none → E (.ref C) (some dd) (upd H' dd (.xd [(fld, v)]))
theorem two_fit {α : Type} (a b : α) : [a, b].length ≤ sizeLine := by rw [sizeLine_eq]; exact (by decide : 2 ≤ 16777216)
theorem one_fit {α : Type} (a : α) : [a].length ≤ sizeLine := by rw [sizeLine_eq]; exact (by decide : 1 ≤ 16777216)
/-- check([x0, x1]) -/
def tChk2 (K : Frag) (p : PyData → Bool) (C : Addr) (fld : Str) (E : XK) : TS := tDrop (tCall (spCL K p C fld) [] E (tCons (tLst (tCons (tVar 0) (tCons (tVar 1) tNil))) tNil))
def tChk1 (K : Frag) (p : PyData → Bool) (C : Addr) (fld : Str) (E : XK) (i : Nat) : TS := tDrop (tCall (spCL K p C fld) [] E (tCons (tLst (tCons (tVar i) tNil)) tNil))
section
variable {K : Frag} {p : PyData → Bool} {C : Addr} {fld : Str} {E : XK} {D : Ends} {σ : L2.St} {H F : Hp} {v w : V} {d e : PyData}
/-- the first one is not right -/
theorem chk2_0 (h0 : σ[0]? = some (some v)) (h1 : σ[1]? = some (some w)) (sF : Same F H) (dv : Dn K F v d) (dw : Dn K F w e) (hb : p d = false) (hE : ∀ (H' : Hp) (dd : Addr), Same H H' → H' dd = none → E (.ref C) (some dd) (upd H' dd (.xd [(fld, v)]))) : tChk2 K p C fld E D σ H := by
  refine ⟨v, h0, w, h1, two_fit v w, fun q hq => ?_⟩
  refine ⟨q, [v, w], F, [d, e], rfl, SqL.of upd_same, sF.trans (same_upd hq), .cons dv (.cons dw .nil), fun h => ?_, fun j u x h2 h3 h4 h5 H' dd s hn => ?_⟩
  · simp [hb] at h
  · match j with
    | 0 =>
      simp at h2
      subst h2
      exact hE H' dd ((same_upd hq).trans s) hn
    | j + 1 =>
      have := h5 0 d (by omega) rfl
      rw [hb] at this; cases this
/-- the second one is not right -/
theorem chk2_1 (h0 : σ[0]? = some (some v)) (h1 : σ[1]? = some (some w)) (sF : Same F H) (dv : Dn K F v d) (dw : Dn K F w e) (ha : p d = true) (hb : p e = false) (hE : ∀ (H' : Hp) (dd : Addr), Same H H' → H' dd = none → E (.ref C) (some dd) (upd H' dd (.xd [(fld, w)]))) : tChk2 K p C fld E D σ H := by
  refine ⟨v, h0, w, h1, two_fit v w, fun q hq => ?_⟩
  refine ⟨q, [v, w], F, [d, e], rfl, SqL.of upd_same, sF.trans (same_upd hq), .cons dv (.cons dw .nil), fun h => ?_, fun j u x h2 h3 h4 h5 H' dd s hn => ?_⟩
  · simp [hb] at h
  · match j with
    | 0 =>
      simp at h3
      subst h3
      rw [ha] at h4; cases h4
    | 1 =>
      simp at h2
      subst h2
      exact hE H' dd ((same_upd hq).trans s) hn
    | j + 2 => simp at h2
/-- both are right -/
theorem chk2_ok (h0 : σ[0]? = some (some v)) (h1 : σ[1]? = some (some w)) (sF : Same F H) (dv : Dn K F v d) (dw : Dn K F w e) (ha : p d = true) (hb : p e = true) (hD : ∀ H', Same H H' → D.nx σ H') : tChk2 K p C fld E D σ H := by
  refine ⟨v, h0, w, h1, two_fit v w, fun q hq => ?_⟩
  refine ⟨q, [v, w], F, [d, e], rfl, SqL.of upd_same, sF.trans (same_upd hq), .cons dv (.cons dw .nil), fun h H' s => hD H' ((same_upd hq).trans s), fun j u x h2 h3 h4 h5 H' dd s hn => ?_⟩
  match j with
  | 0 =>
    simp at h3
    subst h3
    rw [ha] at h4; cases h4
  | 1 =>
    simp at h3
    subst h3
    rw [hb] at h4; cases h4
  | j + 2 => simp at h2
theorem chk1_bad {i : Nat} (h0 : σ[i]? = some (some v)) (sF : Same F H) (dv : Dn K F v d) (hb : p d = false) (hE : ∀ (H' : Hp) (dd : Addr), Same H H' → H' dd = none → E (.ref C) (some dd) (upd H' dd (.xd [(fld, v)]))) : tChk1 K p C fld E i D σ H := by
  refine ⟨v, h0, one_fit v, fun q hq => ?_⟩
  refine ⟨q, [v], F, [d], rfl, SqL.of upd_same, sF.trans (same_upd hq), .cons dv .nil, fun h => ?_, fun j u x h2 h3 h4 h5 H' dd s hn => ?_⟩
  · simp [hb] at h
  · match j with
    | 0 =>
      simp at h2
      subst h2
      exact hE H' dd ((same_upd hq).trans s) hn
    | j + 1 => simp at h2
theorem chk1_ok {i : Nat} (h0 : σ[i]? = some (some v)) (sF : Same F H) (dv : Dn K F v d) (ha : p d = true) (hD : ∀ H', Same H H' → D.nx σ H') : tChk1 K p C fld E i D σ H := by
  refine ⟨v, h0, one_fit v, fun q hq => ?_⟩
  refine ⟨q, [v], F, [d], rfl, SqL.of upd_same, sF.trans (same_upd hq), .cons dv .nil, fun h H' s => hD H' ((same_upd hq).trans s), fun j u x h2 h3 h4 h5 H' dd s hn => ?_⟩
  match j with
  | 0 =>
    simp at h3
    subst h3
    rw [ha] at h4; cases h4
  | j + 1 => simp at h2
/-- f(a, b): check([a, b]), .. -/
def B2 (p : PyData → Bool) (ds : List PyData) (k : Nat) : Prop := ∃ d e, ds = [d, e] ∧ ((k = 0 ∧ p d = false) ∨ (k = 1 ∧ p d = true ∧ p e = false))
theorem api2_fn {N : List Str} (hN : 2 ≤ N.length) {vs : List V} {Q : VK} (h : spA K 2 (B2 p) C fld vs H Q E) : tSeq (tChk2 K p C fld E) tNever { nx := fun _ H' => Q .non H', rt := Q } (L2.start N vs) H := by
  obtain ⟨F, ds, k, v, sF, hd, hl, ⟨d, e, rfl, hb⟩, hv, hE⟩ := h
  cases hd with
  | cons d0 hd =>
    cases hd with
    | cons d1 hd =>
      cases hd
      rename_i v0 v1
      have s0 : (L2.start N [v0, v1])[0]? = some (some v0) := rfl
      have s1 : (L2.start N [v0, v1])[1]? = some (some v1) := rfl
      rcases hb with ⟨rfl, hb⟩ | ⟨rfl, ha, hb⟩
      · cases hv
        exact chk2_0 s0 s1 sF d0 d1 hb hE
      · cases hv
        exact chk2_1 s0 s1 sF d0 d1 ha hb hE
/-- f(a): check([a]), .. ; f(a, b): check([a]), .. -/
def B1 (p : PyData → Bool) (ds : List PyData) (k : Nat) : Prop := k = 0 ∧ ∃ d r, ds = d :: r ∧ p d = false
theorem api1_fn {N : List Str} {np : Nat} {vs : List V} {Q : VK} (h : spA K np (B1 p) C fld vs H Q E) : tSeq (tChk1 K p C fld E 0) tNever { nx := fun _ H' => Q .non H', rt := Q } (L2.start N vs) H := by
  obtain ⟨F, ds, k, v, sF, hd, hl, ⟨rfl, d, r, rfl, hb⟩, hv, hE⟩ := h
  cases hd with
  | cons d0 hd =>
    rename_i v0 vs
    simp at hv
    subst hv
    exact chk1_bad (show (L2.start N (v0 :: vs))[0]? = some (some v0) from rfl) sF d0 hb hE
/-- f(a, b): check([a]), check'([b]), .. -/
def B11 (p p' : PyData → Bool) (ds : List PyData) (k : Nat) : Prop := k = 1 ∧ ∃ d e, ds = [d, e] ∧ p d = true ∧ p' e = false
theorem api11_fn {N : List Str} {p' : PyData → Bool} {C' : Addr} {fld' : Str} {vs : List V} {Q : VK} (h : spA K 2 (B11 p p') C' fld' vs H Q E) : tSeq (tChk1 K p C fld E 0) (tSeq (tChk1 K p' C' fld' E 1) tNever) { nx := fun _ H' => Q .non H', rt := Q } (L2.start N vs) H := by
  obtain ⟨F, ds, k, v, sF, hd, hl, ⟨rfl, d, e, rfl, ha, hb⟩, hv, hE⟩ := h
  cases hd with
  | cons d0 hd =>
    cases hd with
    | cons d1 hd =>
      cases hd
      rename_i v0 v1
      simp at hv
      subst hv
      refine chk1_ok (show (L2.start N [v0, v1])[0]? = some (some v0) from rfl) sF d0 ha fun H' s => ?_
      exact chk1_bad (show (L2.start N [v0, v1])[1]? = some (some v1) from rfl) (sF.trans s) (d1) hb fun H2 dd s2 hn => hE H2 dd (s.trans s2) hn
/-- f(a, b): check([a, b]), if test: raise C'(b), .. -/
def B2t (p q : PyData → Bool) (ds : List PyData) (k : Nat) : Prop := k = 1 ∧ ∃ d e, ds = [d, e] ∧ p d = true ∧ p e = true ∧ q e = true
theorem api2t_fn {N : List Str} (hN : N.length = 2) {cs : CS} {it : IT} {q : PyData → Bool} {C' : Addr} {fld' : Str} {vs : List V} {Q : VK} (ht : ∀ d e, p e = true → evT cs it [some (.imm d), some (.imm e)] = some (q e, [some (.imm d), some (.imm e)])) (h : spA K 2 (B2t p q) C' fld' vs H Q E) :
    tSeq (tChk2 K p C fld E) (tSeq (tIfS (tEvT K [] H cs it) (tSeq (tRaiseS C' fld' (fun cls d _ H => E cls d H) (tCons (tVar 1) tNil)) tNext) tNext) tNever) { nx := fun _ H' => Q .non H', rt := Q } (L2.start N vs) H := by
  obtain ⟨F, ds, k, v, sF, hd, hl, ⟨rfl, d, e, rfl, ha, hb, hq⟩, hv, hE⟩ := h
  cases hd with
  | cons d0 hd =>
    cases hd with
    | cons d1 hd =>
      cases hd
      rename_i v0 v1
      simp at hv
      subst hv
      have s0 : (L2.start N [v0, v1])[0]? = some (some v0) := rfl
      have s1 : (L2.start N [v0, v1])[1]? = some (some v1) := rfl
      have hst : L2.start N [v0, v1] = [some v0, some v1] := by unfold L2.start; rw [hN]; rfl
      refine chk2_ok s0 s1 sF d0 d1 ha hb fun H' s => ?_
      rw [hst]
      have R : Rel K [] H F H' [some v0, some v1] [some (.imm d), some (.imm e)] := by
        refine ⟨s, sF.trans s, fun j x q => ?_, fun j xs q => ?_, fun j k xs ys b q1 => ?_, (fun q hq => by cases hq), rfl⟩
        · match j with
          | 0 => simp [getE] at q; subst q; exact ⟨v0, rfl, d0⟩
          | 1 => simp [getE] at q; subst q; exact ⟨v1, rfl, d1⟩
          | j + 2 => simp [getE] at q
        · match j with
          | 0 => simp [getE] at q
          | 1 => simp [getE] at q
          | j + 2 => simp [getE] at q
        · match j with
          | 0 => simp [getE] at q1
          | 1 => simp [getE] at q1
          | j + 2 => simp [getE] at q1
      refine ⟨F, _, _, _, R, ht d e hb, fun F' H2 x R2 => ?_⟩
      refine ifT hq ?_
      exact ⟨v1, rfl, v1, rfl, fun dd hdd => hE H2 dd R2.frm hdd⟩
end
end Ev
set_option Elab.async false
set_option linter.all false
set_option maxRecDepth 100000
set_option maxHeartbeats 2000000
/-! TA1: several except clauses «except x as n» with one name n (the pattern of HandS.TryMany and of ps_try_as, joined). -/
namespace L2
open PySem PySem.Spec PyProof.Rows
/-- the clauses' wishes; slot i is n's -/
def wManyA (K : PySem.W.Frag) (i : Nat) (Wout : WX) (D : Ends) : List (Value × (Addr → Value → Option Addr → TS)) → WX
  | [] => Wout
  | (c, ts) :: r => fun cls d σ H => ∃ b, PySem.W.exmOne K cls c = some b ∧ (b = true → ∀ a, H a = none → ts a cls d { nx := fun σ' H' => D.nx (σ'.set i none) H', rt := D.rt, bk := fun σ' H' => D.bk (σ'.set i none) H', ct := fun σ' H' => D.ct (σ'.set i none) H' } (σ.set i (some (.ref a))) H) ∧ (b = false → wManyA K i Wout D r cls d σ H)
inductive HdsA (X : Cx) (n : Str) : List ExceptHandler → List (Value × (Addr → Value → Option Addr → TS)) → Prop
  | nil : HdsA X n [] []
  | cons {x : Str} {c : Value} {ts : Addr → Value → Option Addr → TS} {b₀ : Stmt} {suite : List Stmt} {np pos' : Pos} {hds : List ExceptHandler} {l : List (Value × (Addr → Value → Option Addr → TS))} (hc : Names X x c)
      (hsu : ∀ (a : Addr) (oe : Obj) (cls : Value) (d : Option Addr) (pn : List (Addr × Obj)), Zc cls d oe → (∃ vs, oe.data = .fields vs) → PSs (X.suite a ((a, oe) :: pn)) (b₀ :: suite) (ts a cls d)) (r : HdsA X n hds l) :
      HdsA X n (.ExceptHandler (some (.Name x np)) (some n) (b₀ :: suite) pos' :: hds) ((c, ts) :: l)
section
variable {X : Cx} {n : Str} {i : Nat} {body : List Stmt} {h₀ : ExceptHandler} {hds : List ExceptHandler} {l : List (Value × (Addr → Value → Option Addr → TS))} {pos : Pos} {tb : WX → TS} {Wout : WX}
theorem ps_try_manyA (hs : X.stack = X.env :: X.outer) (hf : X.env.frame = some X.env.locals) (hN : X.N.Nodup) (hi : X.N[i]? = some n) (hln : X.env.kindOf n = some .local) (tk : Takes X Wout)
    (hb : ∀ (W : WX) (pn : List (Addr × Obj)) (xe : Value → Shared → Prop), Takes (X.tr pn xe) W → PassesOwn (model X.prog X.w) X.A X.env xe → PSs (X.tr pn xe) body (tb W))
    (hh : HdsA X n (h₀ :: hds) l) : PS X (.Try body (h₀ :: hds) [] [] pos) (fun D σ H => tb (wManyA X.K i Wout D l) D σ H) := by
  refine ⟨fun pins s σ H D I h => ?_⟩
  have ok := I.ok
  have hfr : X.A.frames = some (X.env :: X.outer) := by rw [ok.frames, hs]
  have hloc : Loc X.env.scope n := .inl hln
  refine wpAny_Try_except ?_
  refine wpAny_mono ((hb (wManyA X.K i Wout D l) (X.pn ++ pins) (fun e s₁ => wpAny (model X.prog X.w) X.A (noteFrame e X.env) (fun _ s₂ => wpAny (model X.prog X.w) X.A (setFlight e none) (fun _ s₃ =>
    wpAny (model X.prog X.w) X.A (handleBy e X.env (h₀ :: hds)) (SP X pins D) X.xe s₃) X.xe s₂) X.xe s₁) (fun u s' xx => ?_) PassesOwn.looking).run [] s σ H D (I.toTry _) h) (fun f s1 hsp => ?_) (fun e s1 he => he)
  · -- the catch
    obtain ⟨a, B, sI, pins', σ', H', cls, d, rfl, J', nb, up, sky, na, os, ag, w⟩ := xx
    have J : Inv X pins σ' H' sI := J'.ofTry ok
    have sky' : Sky B (X.env :: X.outer) a (Zc cls d) X.env.locals s'.heap := by rw [← hs]; exact sky
    show wpAny (model X.prog X.w) X.A (noteFrame (.ref a) X.env) _ _ _
    refine Sky.land Zc.steady hfr hf sky' fun h3 fl3 up3 => ?_
    have J3 : Inv X pins σ' H' { s' with heap := h3 } := J.landed nb fl3.1 (up.trans up3) os ag
    obtain ⟨oe3, vs3, he3, hz3, hd3⟩ := fl3.there
    have notFr : ∀ {h : Heap} {o : Obj} {vs : Array Value}, h.FunFrames B (X.env :: X.outer) → h.get? a = some o → o.data = .fields vs → a ∉ frs (X.env :: X.outer) := fun {h o vs} ff e dd hm => by
      obtain ⟨_, o', e', hnf⟩ := ff.mem hm
      rw [e] at e'; cases e'
      exact hnf _ dd
    have nfr := notFr fl3.2.2.1 he3 hd3
    have nL : a ≠ X.env.locals := fun z => nfr (List.mem_filterMap.mpr ⟨X.env, List.mem_cons_self, by rw [hf, z]⟩)
    have nF : a ∉ X.fs := fun hm => by
      obtain ⟨e, he, q⟩ := List.mem_filterMap.mp hm
      exact nfr (List.mem_filterMap.mpr ⟨e, List.mem_cons_of_mem _ he, q⟩)
    have S3 := J3.suite he3 hd3 na nL nF
    have go : ∀ {hds' : List ExceptHandler} {l' : List (Value × (Addr → Value → Option Addr → TS))}, HdsA X n hds' l' → wManyA X.K i Wout D l' cls d σ' H' →
        wpAny (model X.prog X.w) X.A (handleBy (.ref a) X.env hds') (SP X pins D) X.xe { s' with heap := h3 } := by
      intro hds' l' hk
      induction hk with
      | nil =>
        intro w
        refine wpAny_handleBy_nil ?_
        obtain ⟨k1, k2, k3, oe, vs, T, oT, ts', he, hz, hd, h1, hr⟩ := id fl3
        unfold PySem.passOn
        refine wpAny_bind (wpAny_field he hd h1 ?_)
        rw [if_neg (show ¬ ((Value.ref T == Value.none) = true) from by simp)]
        have fin : wpAny (model X.prog X.w) X.A (setFlight (.ref a) X.env.frame) (fun _ s4 => wpAny (model X.prog X.w) X.A (throw (.ref a) : Sem Flow) (SP X pins D) X.xe s4) X.xe { s' with heap := h3 } := by
          rw [hf]
          refine HandSPX.setFlight_upZ fl3 fun h4 hh4 up4 => wpAny_throw (tk _ _ ?_)
          exact ⟨a, B, sI, pins, σ', H', cls, d, rfl, J, nb, (up.trans up3).trans up4, .inr (.inr (by rw [hs]; exact hh4)), na, os, ag, w⟩
        first
          | exact wpAny_bind (wpAny_pure (wpAny_bind fin))
          | exact wpAny_bind fin
      | @cons x c ts b₀ suite np pos' hds2 l2 hc hsu r ih =>
        intro w
        obtain ⟨b, hb1, hyes, hno⟩ := w
        refine wpAny_handleBy_cons (codeAny_handlers_test ?_) (by intro q; cases q)
        have LT : PySem.W.Looks (model X.prog X.w) h3 (typeOf (.ref a)) cls := fun A Q E s k q => wpAny_typeOf_ref (k _ _ he3) (by rw [hz3.1]; exact q)
        have LM := PySem.W.exm_one (M := model X.prog X.w) (J3.kIn) LT hb1
        have test : ∀ {Q : Value → Shared → Prop} {E : Value → Shared → Prop}, Q c { s' with heap := h3 } → wpAny (model X.prog X.w) (X.A.mark (some (.ref a))) (eval (.Name x np) X.env) Q E { s' with heap := h3 } := fun {Q E} q => by
          obtain ⟨hg, hdbg, hm | ⟨hm, hv, hnn⟩⟩ := hc
          · exact ld_glob (X := X.suite a ((a, oe3) :: (X.pn ++ pins))) S3 hg hm q hdbg
          · exact ld_blt (X := X.suite a ((a, oe3) :: (X.pn ++ pins))) S3 hg hm hv q hnn hdbg
        refine test (LM.here ?_)
        cases b with
        | true =>
          refine codeAny_handlers_suite_as ?_
          refine HandSPX.lands_againZ fl3 fun h4 fl4 up4 => ?_
          have J4 : Inv X pins σ' H' { s' with heap := h4 } := J.landed nb fl4.1 ((up.trans up3).trans up4) os ag
          obtain ⟨oe4, vs4, he4, hz4, hd4⟩ := fl4.there
          have S4 := J4.suite he4 hd4 na nL nF
          refine store_ok (X := X.suite a ((a, oe4) :: (X.pn ++ pins))) (v := .ref a) S4 hN hi hloc rfl (fun s5 S5 => ?_) (.inr hln)
          refine wpAny_mono ((hsu a oe4 cls d (X.pn ++ pins) hz4 ⟨_, hd4⟩).run [] s5 _ H' _ S5 (hyes rfl a na)) (fun f s6 hsp => ?_) (fun _ _ z => False.elim z)
          have end_ : ∀ {σ6 : St} {H6 : Hp} {Q : Shared → Prop}, Inv (X.suite a ((a, oe4) :: (X.pn ++ pins))) [] σ6 H6 s6 → (∀ s7, Inv X pins (σ6.set i none) H6 s7 → Q s7) →
              wpAny (model X.prog X.w) X.A (do bindName X.env n .none; unbindBehindTheSuite X.env n pos') (fun _ s7 => Q s7) X.xe s6 := fun {σ6 H6 Q} S6 hq => gone_ok (S6.unsuite ok) hN hi hln hq
          cases f with
          | next =>
            obtain ⟨σ6, H6, S6, q6⟩ := hsp
            exact end_ S6 fun s7 J7 => ⟨_, _, J7, q6⟩
          | brk =>
            obtain ⟨σ6, H6, S6, q6⟩ := hsp
            exact end_ S6 fun s7 J7 => ⟨_, _, J7, q6⟩
          | cont =>
            obtain ⟨σ6, H6, S6, q6⟩ := hsp
            exact end_ S6 fun s7 J7 => ⟨_, _, J7, q6⟩
          | ret u =>
            obtain ⟨v6, σ6, H6, S6, r6, q6⟩ := hsp
            exact end_ S6 fun s7 J7 => ⟨_, _, _, J7, r6, q6⟩
        | false =>
          show wpAny _ X.A (handleBy (.ref a) X.env hds2) _ _ _
          exact ih (hno rfl)
    exact go hh w
  · cases f with
    | next =>
      obtain ⟨σ', H', J', q⟩ := hsp
      exact wpAny_execs_nil ⟨σ', H', J'.ofTry ok, q⟩
    | brk =>
      obtain ⟨σ', H', J', q⟩ := hsp
      exact ⟨σ', H', J'.ofTry ok, q⟩
    | cont =>
      obtain ⟨σ', H', J', q⟩ := hsp
      exact ⟨σ', H', J'.ofTry ok, q⟩
    | ret u =>
      obtain ⟨v, σ', H', J', r, q⟩ := hsp
      exact ⟨v, σ', H', J'.ofTry ok, r, q⟩
end
end L2
set_option Elab.async false
set_option linter.all false
set_option maxRecDepth 100000
set_option maxHeartbeats 2000000
/-! LM1: a lambda, with or without defaults, as a thing of the heap: made, called. -/
namespace LamD
open PySem PySem.Spec PyProof.Rows L2 LamX
/-- a lambda's words, the cells that it captured, its code object, its defaults' tuple -/
structure LF where
  qual : Str
  params : Arguments
  body : Expr
  scope : Scope
  cl : List (Str × Addr)
  c : Addr
  dT : Option Addr
def dV : Option Addr → Value
  | none => .none
  | some T => .ref T
abbrev LF.fd (L : LF) (doc pm ctv : Value) : FuncData := PySem.W.kdv_fn "<lambda>" L.qual L.params (.expr L.body) L.scope L.cl (dV L.dT) doc pm (.ref L.c) ctv
/-- the object at f is the lambda L -/
def LamO (f : Addr) (L : LF) : HO := .ext fun h => ∃ (od : Option Addr) (sl : Array (Option Value)) (doc pm ctv : Value), h.get? f = some (⟨.type "function", od, .func (L.fd doc pm ctv), sl⟩ : Obj)
theorem lamO_ne {f : Addr} {L : LF} (ps : Array Value) : LamO f L ≠ .tbl ps := fun z => by
  unfold LamO at z
  cases z
theorem lamO_at {P : Program} {w : World} {H : Hp} {h : Heap} {f : Addr} {L : LF} (hok : HOk P w H h) (e : H f = some (LamO f L)) : ∃ (od : Option Addr) (sl : Array (Option Value)) (doc pm ctv : Value), h.get? f = some (⟨.type "function", od, .func (L.fd doc pm ctv), sl⟩ : Obj) := by
  obtain ⟨x, _, _⟩ := hok f _ e
  exact x
section
variable {X : Cx} {pins : List (Addr × Obj)} {σ : L2.St} {H : Hp} {s : Shared}
theorem inv_lam {L : LF} {o : Obj} {t' : Nat} {doc pm ctv : Value} (I : Inv X pins σ H s) (ho : o = { cls := .type "function", data := .func (L.fd doc pm ctv) }) :
    Inv X pins σ (upd H s.heap.objs.size (LamO s.heap.objs.size L)) { s with heap := s.heap.push o, toks := t' } := by
  subst ho
  refine I.laid (a := s.heap.objs.size) (fun b u e => Heap.get?_push_of_some _ e) (Nat.le_refl _) ?_
  have e : (s.heap.push ({ cls := .type "function", data := .func (L.fd doc pm ctv) } : Obj)).get? s.heap.objs.size = some ({ cls := .type "function", data := .func (L.fd doc pm ctv) } : Obj) := Heap.get?_push_size _ rfl
  exact ⟨⟨_, _, doc, pm, ctv, e⟩, ⟨_, e⟩, fun h1 h2 ⟨od, sl, d, p, t, z⟩ st => ⟨od, sl, d, p, t, st _ z⟩⟩
/-- the lambda's object is made: its code object is new, or found in the table -/
theorem lam_tail {T : List (Addr × Str)} {c P : Addr} {params : Arguments} {body : Expr} {scope : Scope} {pos : Pos} {dT : Option Addr} {E : Value → Shared → Prop} {Q : Value → Shared → Prop} (I : Inv X pins σ H s) (TB : TabB X.base X.mg c P) (hcode : X.env.code = .ref c)
    (hm : (P, X.env.qual ++ "<lambda>") ∈ T) (hu : ∀ p ∈ T, p.1 = P → p.2 = X.env.qual ++ "<lambda>") (hT : Tabs T H) (hfree : ∀ y ∈ scope.names, y.2 = .free → ∃ c, X.env.cells.lookup y.1 = some c)
    (h : ∀ (f c' : Addr) (H1 : Hp) (s' : Shared), Inv X pins σ H1 s' → ExtN H H1 → (∀ b, H1 b = none → H b = none) → Tabs T H1 → H f = none → H1 f = some (LamO f ⟨X.env.qual ++ "<lambda>", params, body, scope, cloFrom X.env.cells scope.names [], c', dT⟩) → H1 c' = some (CodeO c' (X.env.qual ++ "<lambda>")) → Q (.ref f) s') :
    wpAny (model X.prog X.w) X.A (makeTail "<lambda>" (X.env.qual ++ "<lambda>") params (.expr body) scope X.env (dV dT) .none none pos pos.line) Q E s := by
  obtain ⟨ps, hP, ht, ha⟩ := hT _ hm
  have bP : s.heap.BuiltinsAt X.mg P := TB.bm.keeps I.bk
  have hP' : s.heap.get? P = some { cls := .none, data := .fields ps } := I.hok P _ hP
  cases hc : codeAmong pos ps.toList with
  | none =>
    refine PySem.W.kdv_makeTail (mg := X.mg) (c := c) (P := P) (ps := ps) (closure_ok hfree) I.ok.glob (I.mod.glob.keeps I.bk) hcode (TB.code.keeps I.bk) hP' ht hc TB.gP bP fun c' ctv doc h' tk hx hge hlt hrec htb => ?_
    obtain ⟨c2, oc, vs, t, e2, hoc, hd, hv⟩ := hrec
    cases e2
    have nC : H c' = none := I.hok.fresh hge
    have I1 := inv_table (t' := tk) (more := #[rawInt pos.line, rawInt pos.col, .ref c']) (h' := h') I hP (fun b o hb e => hx b o hb e) htb hge ⟨oc, vs, t, hoc, hd, hv⟩
    have hE : ExtN H (upd (upd H P (.tbl (ps ++ #[rawInt pos.line, rawInt pos.col, .ref c']))) c' (CodeO c' (X.env.qual ++ "<lambda>"))) := fun b o e n => by
      rw [upd_ne (ne_of_none e nC), upd_ne (fun z => n ps (Option.some.inj (e.symm.trans (by rw [z]; exact hP))))]
      exact e
    have eL : (ps ++ #[rawInt pos.line, rawInt pos.col, .ref c']).toList = ps.toList ++ [rawInt pos.line, rawInt pos.col, .ref c'] := by simp
    have T1 : Tabs T (upd (upd H P (.tbl (ps ++ #[rawInt pos.line, rawInt pos.col, .ref c']))) c' (CodeO c' (X.env.qual ++ "<lambda>"))) := fun p hp => by
      by_cases hb : p.1 = P
      · rw [hu p hp hb, hb]
        refine ⟨_, by rw [upd_ne (ne_of_none hP nC), upd_same], by rw [eL]; exact PySem.TriplesOk_snoc _ _ _ _ ht, fun p' cv hcv => ?_⟩
        rw [eL] at hcv
        rcases among_app _ ht hcv with z | z
        · obtain ⟨c0, e1, e2⟩ := ha p' cv z
          exact ⟨c0, e1, hE _ _ e2 codeO_ne⟩
        · exact ⟨c', z, upd_same⟩
      · obtain ⟨ps', a1, a2, a3⟩ := hT p hp
        refine ⟨ps', by rw [upd_ne (ne_of_none a1 nC), upd_ne hb]; exact a1, a2, fun p' cv hcv => ?_⟩
        obtain ⟨c0, e1, e2⟩ := a3 p' cv hcv
        exact ⟨c0, e1, hE _ _ e2 codeO_ne⟩
    have nF := I1.hok.fresh (Nat.le_refl _)
    have I2 := inv_lam (L := ⟨X.env.qual ++ "<lambda>", params, body, scope, cloFrom X.env.cells scope.names [], c', dT⟩) (t' := tk) (doc := doc) (pm := (X.mg "__name__").getD .none) (ctv := ctv) I1 rfl
    refine h h'.objs.size c' _ _ I2 (fun b o e n => ?_) (fun b e => NdefX.upd_none (NdefX.upd_none (NdefX.upd_none e))) (T1.ext fun b o e => ?_) (I.hok.fresh (Nat.le_trans hge (Nat.le_of_lt hlt))) upd_same ?_
    · have e1 := hE b o e n
      exact (upd_ne (ne_of_none e1 nF)).trans e1
    · exact (upd_ne (ne_of_none e nF)).trans e
    · exact (upd_ne (Nat.ne_of_lt hlt)).trans upd_same
  | some cv =>
    obtain ⟨c', e, hco⟩ := ha pos cv hc
    subst e
    refine PySem.W.kdv_makeTailHit (mg := X.mg) (c := c) (P := P) (ps := ps) (closure_ok hfree) I.ok.glob (I.mod.glob.keeps I.bk) hcode (TB.code.keeps I.bk) hP' ht hc bP fun ctv doc h' tk hx hsz => ?_
    have I1 : Inv X pins σ H { s with heap := h', toks := tk } := I.kept hx
    have nF : H h'.objs.size = none := I1.hok.fresh (Nat.le_refl _)
    have I2 := inv_lam (L := ⟨X.env.qual ++ "<lambda>", params, body, scope, cloFrom X.env.cells scope.names [], c', dT⟩) (t' := tk) (doc := doc) (pm := (X.mg "__name__").getD .none) (ctv := ctv) I1 rfl
    refine h h'.objs.size c' _ _ I2 (fun b o e n => ?_) (fun b e => NdefX.upd_none e) (hT.ext fun b o e => ?_) nF upd_same ?_
    · exact (upd_ne (ne_of_none e nF)).trans e
    · exact (upd_ne (ne_of_none e nF)).trans e
    · exact (upd_ne (ne_of_none hco nF)).trans hco
end
/-- at f: the lambda with these words, cells and defaults -/
structure LamAt (H : Hp) (f : Addr) (qual : Str) (params : Arguments) (body : Expr) (scope : Scope) (cl : List (Str × Addr)) (dvs : List V) : Prop where
  ex : ∃ (c' : Addr) (dT : Option Addr), H f = some (LamO f ⟨qual, params, body, scope, cl, c', dT⟩) ∧ H c' = some (CodeO c' qual) ∧ ((dT = none ∧ dvs = []) ∨ ∃ T, dT = some T ∧ dvs ≠ [] ∧ H T = some (.tup dvs))
theorem LamAt.ext {H H' : Hp} {f : Addr} {qual : Str} {params : Arguments} {body : Expr} {scope : Scope} {cl : List (Str × Addr)} {dvs : List V} (l : LamAt H f qual params body scope cl dvs) (e : ExtN H H') : LamAt H' f qual params body scope cl dvs := by
  obtain ⟨c', dT, h1, h2, h3⟩ := l
  refine ⟨c', dT, e _ _ h1 lamO_ne, e _ _ h2 codeO_ne, ?_⟩
  rcases h3 with h | ⟨T, a, b, c⟩
  · exact .inl h
  · exact .inr ⟨T, a, b, e _ _ c (fun ps z => by cases z)⟩
/-- a lambda is made -/
def tLamMk (T : List (Addr × Str)) (qual : Str) (params : Arguments) (body : Expr) (scope : Scope) (cl : List (Str × Addr)) (dvs : List V) : TE := fun σ H Q => Tabs T H ∧ ∀ (f : Addr) (H1 : Hp), ExtN H H1 → (∀ b, H1 b = none → H b = none) → Tabs T H1 → H f = none → LamAt H1 f qual params body scope cl dvs → Q (.ref f) H1
section
variable {X : Cx} {T : List (Addr × Str)} {c P : Addr} {params : Arguments} {body : Expr} {scope : Scope} {pos : Pos}
theorem pe_lam0 (TB : TabB X.base X.mg c P) (hcode : X.env.code = .ref c) (hm : (P, X.env.qual ++ "<lambda>") ∈ T) (hu : ∀ p ∈ T, p.1 = P → p.2 = X.env.qual ++ "<lambda>") (hdef : defaultsOf params X.env = ([], [])) (hfree : X.Ok → ∀ y ∈ scope.names, y.2 = .free → ∃ c, X.env.cells.lookup y.1 = some c) :
    PE X (.Lambda params body scope pos) (tLamMk T (X.env.qual ++ "<lambda>") params body scope (cloFrom X.env.cells scope.names []) []) := by
  refine ⟨fun pins s σ H Q I h => ?_⟩
  obtain ⟨hT, h⟩ := h
  refine PySem.W.kla_eval hdef ?_
  rw [makeFunction_eq]
  simp only [List.zip_nil_right, List.filterMap_nil, List.isEmpty_nil, if_true, pure_bind]
  exact lam_tail (dT := none) I TB hcode hm hu hT (hfree I.ok) fun f c' H1 s' I1 eN mo T1 n hf hc => ⟨.ref f, H1, I1, rfl, h f H1 eN mo T1 n ⟨c', none, hf, hc, .inl ⟨rfl, rfl⟩⟩⟩
theorem pe_lam1 {i : Int} {k : Nat} {p0 : Pos} (TB : TabB X.base X.mg c P) (hcode : X.env.code = .ref c) (hm : (P, X.env.qual ++ "<lambda>") ∈ T) (hu : ∀ p ∈ T, p.1 = P → p.2 = X.env.qual ++ "<lambda>") (hdef : params.defaults = [.Constant (.int i) k p0]) (hk0 : params.kw_defaults = []) (hfree : X.Ok → ∀ y ∈ scope.names, y.2 = .free → ∃ c, X.env.cells.lookup y.1 = some c) :
    PE X (.Lambda params body scope pos) (tLamMk T (X.env.qual ++ "<lambda>") params body scope (cloFrom X.env.cells scope.names []) [.int i]) := by
  refine ⟨fun pins s σ H Q I h => ?_⟩
  obtain ⟨hT, h⟩ := h
  refine PySem.W.kdv_lam (by rw [hdef]; rfl) hk0 ?_
  rw [hdef]
  refine PySem.W.kdv_all1 (thn ((pe_int (X := X)).run pins s σ H (fun v H' => v = .int i ∧ H' = H) I ⟨rfl, rfl⟩) fun u s1 ⟨v, H1, I1, r1, ev, eh⟩ => PySem.W.kdv_all0 ?_)
  subst ev eh
  rw [makeFunction_eq]
  simp only [List.zip_nil_right, List.filterMap_nil, List.isEmpty_nil, if_true, pure_bind, List.isEmpty_cons, Bool.false_eq_true, if_false]
  refine wpAny_bind (wpAny_newTextTuple ?_)
  have nT : H1 s1.heap.objs.size = none := I1.hok.fresh (Nat.le_refl _)
  have I2 : Inv X pins σ (upd H1 s1.heap.objs.size (.tup [.int i])) { s1 with heap := s1.heap.push { cls := .type "tuple", data := .seq [u].toArray } } := by
    refine I1.laid (t' := s1.toks) (fun b x e => Heap.get?_push_of_some _ e) (Nat.le_refl _) ?_
    exact ⟨by show 1 ≤ sizeLine; rw [sizeLine_eq]; decide, [u], .cons r1 .nil, ⟨_, Heap.get?_push_size _ rfl, rfl, _, rfl⟩⟩
  have s1' : ∀ b x, H1 b = some x → upd H1 s1.heap.objs.size (.tup [.int i]) b = some x := fun b x e => by rw [upd_ne (ne_of_none e nT)]; exact e
  refine lam_tail (dT := some s1.heap.objs.size) I2 TB hcode hm hu (hT.ext s1') (hfree I.ok) fun f c' H2 s' I3 eN mo T1 n hf hc => ⟨.ref f, H2, I3, rfl, h f H2 ((ExtN.of s1').trans eN) (fun b e => NdefX.upd_none (mo b e)) T1 (NdefX.upd_none n) ⟨c', some _, hf, hc, .inr ⟨_, rfl, by simp, ?_⟩⟩⟩
  exact eN _ _ upd_same fun ps z => by cases z
end
end LamD
set_option Elab.async false
set_option linter.all false
set_option maxRecDepth 100000
set_option maxHeartbeats 2000000
/-! LM2: such a lambda called, within the def that it was handed to. -/
namespace LamD
open PySem PySem.Spec PyProof.Rows L2 LamX
/-- its names: parameters of its own, captured ones, globals -/
structure LamS2 (sc scope : Scope) (ps : List Str) : Prop where
  kind : scope.kind = .function
  co : scope.isCoroutine = false
  gen : scope.isGenerator = false
  nocell : ∀ y ∈ scope.names, y.2 ≠ .cell
  free : ∀ y ∈ scope.names, y.2 = .free → sc.names.lookup y.1 = some .cell ∨ sc.names.lookup y.1 = some .free
  par : ∀ x ∈ ps, scope.names.lookup x = some .local
def lamS2B (sc scope : Scope) (ps : List Str) : Bool :=
  decide (scope.kind = .function) && !scope.isCoroutine && !scope.isGenerator && (scope.names.all fun y => !decide (y.2 = .cell) && (!decide (y.2 = .free) || decide (sc.names.lookup y.1 = some .cell) || decide (sc.names.lookup y.1 = some .free))) && ps.all fun x => decide (scope.names.lookup x = some .local)
theorem lamS2_by {sc scope : Scope} {ps : List Str} (h : lamS2B sc scope ps = true) : LamS2 sc scope ps := by
  unfold lamS2B at h
  simp only [Bool.and_eq_true, Bool.or_eq_true, Bool.not_eq_true', decide_eq_true_eq, decide_eq_false_iff_not, List.all_eq_true] at h
  obtain ⟨⟨⟨⟨h1, h2⟩, h3⟩, h4⟩, h5⟩ := h
  refine ⟨h1, h2, h3, fun y hy => (h4 y hy).1, fun y hy e => ?_, h5⟩
  rcases (h4 y hy).2 with (z | z) | z
  · exact absurd e z
  · exact .inl z
  · exact .inr z
theorem LamS2.has {X : Cx} {scope : Scope} {ps : List Str} (L : LamS2 X.env.scope scope ps) (ok : X.Ok) : ∀ y ∈ scope.names, y.2 = .free → ∃ c, X.env.cells.lookup y.1 = some c := fun y hy e => by
  rcases L.free y hy e with k | k
  · exact ok.has _ (.inl k)
  · exact ok.has _ (.inr k)
/-- the maker's slots as the lambda sees them: its own parameters hide names -/
def hideL (N : List Str) (scope : Scope) (σ : L2.St) : L2.St := List.zipWith (fun y o => if scope.names.lookup y = some .local then none else o) N σ
theorem hideL_get {N : List Str} {scope : Scope} {σ : L2.St} {i : Nat} {y : Str} {v : V} (h : (hideL N scope σ)[i]? = some (some v)) (hy : N[i]? = some y) : σ[i]? = some (some v) ∧ scope.names.lookup y ≠ some .local := by
  unfold hideL at h
  rw [List.getElem?_zipWith, hy] at h
  cases hs : σ[i]? with
  | none => rw [hs] at h; cases h
  | some o =>
    rw [hs] at h
    dsimp only at h
    split at h
    · cases h
    · rename_i z
      exact ⟨by rw [← hs]; rw [hs]; exact h, z⟩
theorem hideL_len {N : List Str} {scope : Scope} {σ : L2.St} (h : σ.length = N.length) : (hideL N scope σ).length = N.length := by
  unfold hideL
  rw [List.length_zipWith, h, Nat.min_self]
/-- how its defaults are bound -/
structure LBind (params : Arguments) (body : Expr) (scope : Scope) (ps : List Str) (dvs : List V) : Prop where
  len : ps.length = dvs.length
  b0 : dvs = [] → ∀ (q : Str) (cl : List (Str × Addr)) (doc pm cv ctv : Value), bindArgs (PySem.W.kdv_fn "<lambda>" q params (.expr body) scope cl .none doc pm cv ctv) ⟨[], []⟩ = pure []
  b1 : dvs ≠ [] → ∀ (q : Str) (cl : List (Str × Addr)) (T : Addr) (doc pm cv ctv : Value), ∃ k, bindArgs (PySem.W.kdv_fn "<lambda>" q params (.expr body) scope cl (.ref T) doc pm cv ctv) ⟨[], []⟩ = seqItems? (.ref T) >>= k ∧ ∀ us : List Value, us.length = ps.length → k (some us.toArray) = pure (ps.zip us)
section
variable {X : Cx} {pins : List (Addr × Obj)} {σ : L2.St} {H HZ : Hp} {s s1 : Shared}
theorem lam_start3 {A : Around} {outer : List Env} {E : XK} {scope : Scope} {f c' : Addr} {h₁ : Heap} {tk : Nat} {ps : List Str} {binds : List (Str × Value)} (I : Inv X pins σ H s) (L : LamS2 X.env.scope scope ps) (e0 : Env0 X.prog X.w X.K X.mg X.base A outer s1 HZ) (hd : A.handled = none)
    (un : Un (frs X.stack) [] H HZ s.heap s1.heap) (hns : h₁.Ns s1.heap.objs.size fun y => binds.reverse.lookup y) (kp : ∀ b o, s1.heap.get? b = some o → h₁.get? b = some o) :
    Inv (lamCx X A outer s1 HZ E scope f c') [] (hideL X.N scope σ) HZ { s1 with heap := h₁, toks := tk } := by
  have hfree := L.has I.ok
  have cm : ∀ {y c}, (cloFrom X.env.cells scope.names []).lookup y = some c → X.env.cells.lookup y = some c := fun {y c} e => by
    rcases cloFrom_mem (PySem.mem_of_lookup e) with hm | ⟨h1, h2⟩
    · cases hm
    · obtain ⟨c1, hc⟩ := hfree _ h1 rfl
      have hc : X.env.cells.lookup y = some c1 := hc
      have e2 : c = c1 := by
        rw [h2, hc] <;> rfl
      rw [e2]
      exact hc
  have look : ∀ {y}, scope.names.lookup y = some .free → ∃ c, (cloFrom X.env.cells scope.names []).lookup y = some c := fun {y} hl => by
    have hy : (y, NameKind.free) ∈ scope.names := PySem.mem_of_lookup hl
    exact mem_lookup (cloFrom_has (cells := X.env.cells) (acc := []) hy)
  have cellK : ∀ {c : Addr} {v : Option Value}, H c = none → s.heap.IsCell c v → h₁.IsCell c v := fun {c v} n ⟨o, ho, hd⟩ => by
    obtain ⟨sl, q⟩ := un.any ho n (by simp)
    exact ⟨_, kp _ _ q, hd⟩
  have noA : ∀ b : Addr, b ∉ (lamCx X A outer s1 HZ E scope f c').ex := fun b z => absurd (show b ∈ ([] : List Addr) from z) (by simp)
  refine ⟨⟨e0.mod, L.kind, rfl, rfl, Nat.le_refl _, fun y z c e1 e2 => I.ok.inj y z c (cm e1) (cm e2), fun y hy => ?_, fun y c z _ => ?_, fun _ => hd, Around.frames_deeper e0.frames, .inr ⟨rfl, rfl⟩, fun b z => absurd z (noA b), e0.bs, e0.bsz, fun b _ _ => noA b,
      fun b z => absurd z (noA b), e0.funs, e0.frf⟩,
    rfl, e0.bare, Un.kept kp, ⟨_, hns, fun i y v e1 e2 e3 => ?_⟩, fun y c e => ?_, e0.hok.fresh (Nat.le_refl _), fun y c e => ?_, fun q hq => absurd (show q ∈ ([] : List (Addr × Obj)) ++ [] from hq) (by simp), e0.hok.kept kp, hideL_len I.len⟩
  · have hy : scope.names.lookup y = some .cell ∨ scope.names.lookup y = some .free := hy
    rcases hy with hy | hy
    · exact absurd rfl (L.nocell _ (PySem.mem_of_lookup hy))
    · exact look hy
  · have z : false = true := z
    cases z
  · have e3 : Vis scope y := e3
    have e1' : X.N[i]? = some y := e1
    obtain ⟨e2, nl⟩ := hideL_get e2 e1'
    rcases e3 with k | k | k
    · exact absurd k nl
    · exact absurd rfl (L.nocell _ (PySem.mem_of_lookup k))
    · obtain ⟨m, hn, hl⟩ := I.loc
      have hvis : Vis X.env.scope y := (L.free _ (PySem.mem_of_lookup k) rfl).elim (fun k => .inr (.inl k)) (fun k => .inr (.inr k))
      obtain ⟨w', r, q⟩ := hl i y v e1 e2 hvis
      obtain ⟨c2, h2⟩ := look k
      refine ⟨w', r, .inr ⟨.inr k, c2, h2, ?_⟩⟩
      have c1 := cm h2
      rcases q with ⟨k', _⟩ | ⟨_, c3, e', z⟩
      · have k' : X.env.scope.names.lookup y = some .local := k'
        rcases L.free _ (PySem.mem_of_lookup k) rfl with k2 | k2 <;> rw [show X.env.scope.names.lookup y = _ from k2] at k' <;> cases k'
      · rw [c1] at e'
        cases e'
        exact cellK (I.freeC y _ c1) z
  · obtain ⟨w', z⟩ := I.cell y c (cm e)
    exact ⟨w', cellK (I.freeC y c (cm e)) z⟩
  · obtain ⟨v, o, ho, hd⟩ := I.cell y c (cm e)
    exact un.free c o ho (I.freeC y c (cm e)) (by simp)
/-- x(), in the def that got the lambda: Z is that def's context, entered at s -/
theorem pe_actD {CXg : CXT} {Eg : XK} {Ng : List Str} {qg : Str} {sg : Scope} {g f : Addr} {cdg : Value} {params : Arguments} {body : Expr} {scope : Scope} {k i : Nat} {a : Str} {pn : List (Addr × Obj)} {xe : Value → Shared → Prop} {W : WX} {E : XK} {tb : TE} {ps : List Str} {dvs : List V} {p1 p2 : Pos}
    (I : Inv X pins σ H s) (L : LamS2 X.env.scope scope ps) (B : LBind params body scope ps dvs)
    (tk : Takes ((cxOf CXg X.prog X.w X.K X.mg X.base Ng qg sg g cdg X.A X.stack s H Eg).tr pn xe) W) (hr : Room (k + 1) (X.A.deeper (envOfC qg sg s.heap.objs.size g cdg)))
    (hbody : ∀ (A : Around) (outer : List Env) (s : Shared) (H : Hp) (c' : Addr), Room k (A.deeper (lamEnv X scope s.heap.objs.size f c')) → PE (lamCx X A outer s H E scope f c') body tb)
    (hN : Ng[i]? = some a) (hv : Vis sg a) (hd : (a == ("__debug__" : Str)) = false := by decide) (hcd : (a == ("__classdict__" : Str)) = false := by decide) :
    PE ((cxOf CXg X.prog X.w X.K X.mg X.base Ng qg sg g cdg X.A X.stack s H Eg).tr pn xe) (.Call (.Name a p1) [] [] p2)
      (fun σZ HZ Q => σZ[i]? = some (some (.ref f)) ∧ LamAt HZ f (X.env.qual ++ "<lambda>") params body scope (cloFrom X.env.cells scope.names []) dvs ∧ (∀ cls d H', E cls d H' → W cls d σZ H') ∧ tb (hideL X.N scope σ) HZ Q) := by
  refine ⟨fun pinsZ sZ σZ HZ Q IZ h => ?_⟩
  obtain ⟨hs, ⟨c', dT, hf, hc, hdT⟩, hW, ht⟩ := h
  refine wpAny_Call_Name_kw (thn ((pe_var (pos := p1) (i := i) hN hv hd hcd).run pinsZ sZ σZ HZ (fun v H1 => v = .ref f ∧ H1 = HZ) IZ ⟨.ref f, hs, rfl, rfl⟩) fun u s1 ⟨v, H1, I1, r1, q1⟩ => ?_)
  obtain ⟨ev, eH⟩ := q1
  subst ev
  rw [eH] at I1
  obtain rfl : u = Value.ref f := r1
  obtain ⟨od, sl, doc, pm, ctv, of1⟩ := lamO_at I1.hok hf
  refine PySem.W.callWith_F0 ⟨_, _, _, _, of1⟩ ?_
  have un : Un (frs X.stack) [] H HZ s.heap s1.heap := I1.base
  obtain ⟨⟨oc, vs, t, hoc, hdc, hvc⟩, _, _⟩ := I1.hok c' _ hc
  have rc : codeAny (model X.prog X.w) (X.A.deeper (envOfC qg sg s.heap.objs.size g cdg)) (.call (.ref f) ⟨[], []⟩) (CR (L2.CX X.prog X.w) (envOfC qg sg s.heap.objs.size g cdg :: X.stack) X.prog X.w HZ s1 Q E) s1 := by
    refine PySem.W.kla_callFunE hr.depth of1 rfl L.co L.gen rfl ⟨c', oc, vs, t, rfl, hoc, hdc, hvc⟩ ?_
    -- the body, its defaults bound
    have go : ∀ (us : List Value), us.length = ps.length → wpAny (model X.prog X.w) (X.A.deeper (envOfC qg sg s.heap.objs.size g cdg)).in1 (newFunctionEnv scope mainGlobals (cloFrom X.env.cells scope.names []) (ps.zip us) ((X.env.qual ++ "<lambda>") ++ ".<locals>.") (some f) (.ref c') none builtinsNs)
        (fun env s₂ => s₂.heap.NoLimit ∧ codeAny (model X.prog X.w) (X.A.deeper (envOfC qg sg s.heap.objs.size g cdg)) (.expr body env) (CR (L2.CX X.prog X.w) (envOfC qg sg s.heap.objs.size g cdg :: X.stack) X.prog X.w HZ s1 Q E) s₂) (fun e s' => CR (L2.CX X.prog X.w) (envOfC qg sg s.heap.objs.size g cdg :: X.stack) X.prog X.w HZ s1 Q E (.error e) s') s1 := by
      intro us hl
      refine wpAny_newFunctionEnv L.nocell (fun ⟨n, _⟩ hy => L.par n (List.of_mem_zip hy).1) (fun h₁ hns hsb => ⟨I1.nolimit.fresh _ hsb, ?_⟩) L.kind
      show codeAny _ _ (.expr body (lamEnv X scope s1.heap.objs.size f c')) _ _
      have kp : ∀ b o, s1.heap.get? b = some o → h₁.get? b = some o := fun b o e => hsb.extBut b o (Nat.ne_of_lt (Heap.lt_size e)) (Heap.get?_push_of_some _ e)
      have J : Inv (lamCx X (X.A.deeper (envOfC qg sg s.heap.objs.size g cdg)) (envOfC qg sg s.heap.objs.size g cdg :: X.stack) s1 HZ E scope f c') [] (hideL X.N scope σ) HZ { s1 with heap := h₁, toks := s1.toks + (ps.zip us).length } :=
        lam_start3 I L I1.env0 hr.hd un hns kp
      refine PySem.W.kla_codeExpr (wpAny_mono ((hbody _ _ s1 HZ c' (hr.deeper _)).run [] _ _ HZ Q J ht) (fun v s' hq => ?_) fun e s' hq => hq)
      obtain ⟨w', H', J', rv, q⟩ := hq
      exact ⟨w', H', J'.os, J'.bare, J'.base, J'.hok, rv, q⟩
    rcases hdT with ⟨rfl, hd0⟩ | ⟨T, rfl, hd0, hT⟩
    · have hl := B.len
      rw [hd0] at hl
      have hps : ps = [] := List.length_eq_zero_iff.mp hl
      have hb := B.b0 hd0 (X.env.qual ++ "<lambda>") (cloFrom X.env.cells scope.names []) doc pm (.ref c') ctv
      show wpAny _ _ (bindArgs (PySem.W.kdv_fn "<lambda>" (X.env.qual ++ "<lambda>") params (.expr body) scope (cloFrom X.env.cells scope.names []) .none doc pm (.ref c') ctv) ⟨[], []⟩) _ _ _
      rw [hb]
      have g0 := go [] (by rw [hps]; rfl)
      rw [hps] at g0
      exact wpAny_pure g0
    · obtain ⟨kk, hb, hk⟩ := B.b1 hd0 (X.env.qual ++ "<lambda>") (cloFrom X.env.cells scope.names []) T doc pm (.ref c') ctv
      obtain ⟨its, rv, pT, _⟩ := I1.tuple (SqT.of hT)
      obtain ⟨oT, hoT, hcT, nT, hdT'⟩ := (show s1.heap.IsTuple T its.toArray from pT)
      have hl : its.length = ps.length := by rw [← rv.length, B.len]
      show wpAny _ _ (bindArgs (PySem.W.kdv_fn "<lambda>" (X.env.qual ++ "<lambda>") params (.expr body) scope (cloFrom X.env.cells scope.names []) (.ref T) doc pm (.ref c') ctv) ⟨[], []⟩) _ _ _
      rw [hb]
      refine wpAny_bind (wpAny_seqItems hoT hdT' ?_)
      rw [hk its hl]
      exact wpAny_pure (go its hl)
  refine wpAny_call (codeAny_mono rc fun r s' hq => ?_)
  cases r with
  | error e => exact tk e s' (XE.of_call I1 (fun cls d H' h => hW cls d H' h) hq)
  | ok fl =>
    cases fl with
    | ret u => exact I1.after hq
    | next => exact False.elim hq
    | brk => exact False.elim hq
    | cont => exact False.elim hq
end
end LamD
set_option Elab.async false
set_option linter.all false
set_option maxRecDepth 100000
set_option maxHeartbeats 2000000
/-! LM3: a def that gets one thing, called; its promise told of the very state (so that a lambda of the caller's may be called in it). -/
namespace LamD
open PySem PySem.Spec PyProof.Rows L2 LamX
theorem pe_callF {X : Cx} {x a : Str} {pg : Arguments} {bg : List Stmt} {sg : Scope} {g : Addr} {fd : FuncData} {Ng : List Str} {k : Nat} {e : Expr} {te : TE} {pre : L2.St → Hp → V → VK → Prop} {p pos : Pos}
    (F : FunD X.K x x pg bg sg [] [] g fd) (Sg : FnScope Ng [a] sg) (hb : L2.Binds X.K fd [a] []) (hg : Gl X x) (hm : X.mg x = some (.ref g)) (hr : Room (k + 1) X.A) (ha : PE X e te)
    (hG : ∀ (cdv : Value) (pins : List (Addr × Obj)) (σ : L2.St) (H : Hp) (s : Shared) (v : V) (Q : VK), Inv X pins σ H s → Room k (X.A.deeper (envOfC x sg s.heap.objs.size g cdv)) → pre σ H v Q →
      ∃ t, PSs (cxOf CX0 X.prog X.w X.K X.mg X.base Ng x sg g cdv X.A X.stack s H E0).nox bg t ∧ t { nx := fun _ H' => Q .non H', rt := Q } (L2.start Ng [v]) H)
    (hdb : (x == ("__debug__" : Str)) = false := by decide) (he : starEach (e :: []) X.env = (false, eval e X.env) :: starEach [] X.env := by rfl) (hpl : (backTo pos (starEach [] X.env)).any (·.1) = false := by rfl) :
    PE X (.Call (.Name x p) [e] [] pos) (fun σ H Q => te σ H fun v H1 => pre σ H1 v Q) := by
  obtain ⟨oc, od, dVv, kV, doc, pm, an, cdv, ct, osl, rfl, lk, hcd, _, _⟩ := F.ex
  refine ⟨fun pins s σ H Q I h => ?_⟩
  refine wpAny_Call_Name_kw (ld_glob I hg hm ?_ hdb)
  refine PySem.W.callWith_K (h₀ := X.base) I.ok.mod.kin F.kp ?_ he hpl
  rw [he]
  show wpAny _ _ (spliced ((false, eval e X.env) :: backTo pos (starEach [] X.env))) _ _ s
  refine Calls.spliced_cons (thn (ha.run pins s σ H _ I h) fun u s1 ⟨v, H1, I1, r1, q1⟩ => ?_)
  refine Calls.spliced_nil ⟨I1.kIn, ?_⟩
  have rc : codeAny (model X.prog X.w) X.A (.call (.ref g) ⟨[u], []⟩) (CR CX0 X.stack X.prog X.w H1 s1 Q E0) s1 := by
    refine run_ofS (N := Ng) (ps := [a]) (us := [u]) (vs := [v]) lk hcd Sg hr I1.env0 (hb s1 [u] I1.kIn rfl) (.cons r1 .nil) rfl fun hr' => ?_
    obtain ⟨t', ht', hq'⟩ := hG cdv pins σ H1 s1 v Q I1 hr' q1
    exact ⟨t', ht'.nox, hq'⟩
  refine wpAny_call (codeAny_mono rc fun r s2 hq => ?_)
  cases r with
  | error e => exact (show False from hq).elim
  | ok fl =>
    cases fl with
    | ret u => exact I1.after hq
    | next => exact False.elim hq
    | brk => exact False.elim hq
    | cont => exact False.elim hq
end LamD
set_option Elab.async false
set_option linter.all false
set_option maxRecDepth 100000
/-! S3: the second level's state, for hand statements. -/
namespace Ev
open PySem PySem.Spec PyProof.Rows L2 RT RZ LamX LamD
section
variable {K : Frag} {T : List (Addr × Str)} {A : List (Nat × Addr)} {G0 G1 H H' : Hp} {σ : L2.St} {ρ : Env}
theorem R2.tabs (R : R2 K T A G0 H σ ρ) : Tabs T H := let ⟨_, _, _, t, R⟩ := R.ex; t.ext R.frm
theorem R2.frm (R : R2 K T A G0 H σ ρ) : Same G0 H := let ⟨_, _, g, _, R⟩ := R.ex; g.trans R.frm
theorem R2.len (R : R2 K T A G0 H σ ρ) : ρ.length = σ.length := let ⟨_, _, _, _, R⟩ := R.ex; R.len
theorem R2.pin (R : R2 K T A G0 H σ ρ) : ∀ p ∈ A, σ[p.1]? = some (some (.ref p.2)) := let ⟨_, _, _, _, R⟩ := R.ex; R.pin
/-- the heap grows, tables change -/
theorem R2.extN (R : R2 K T A G0 H σ ρ) (hn : NoTb G0) (e : ExtN H H') (t : Tabs T H') : R2 K T A G0 H' σ ρ := by
  obtain ⟨G, F, g, tG, R⟩ := R
  have heldL : ∀ b, Held σ ρ b → ∃ vs, H b = some (.lst vs) := fun b ⟨i, xs, h1, h2⟩ => by
    obtain ⟨a, h3, _, _, vs, h4, _⟩ := R.own i xs h1
    rw [h2] at h3; cases h3
    exact ⟨vs, h4⟩
  refine ⟨full H' σ ρ, untb F, fun b x h => ?_, tabs_lst t fun b o h n => ?_, full_le, fun b x h => ?_, fun i d h => ?_, fun i xs h => ?_, R.dis, R.pin, R.len⟩
  · rw [full_not (R.notHeld (.inl (by rw [g _ _ h]; simp)))]
    exact e _ _ (R.frm _ _ (g _ _ h)) fun ps z => by subst z; exact hn b ps h
  · rw [full_not fun z => ?_]
    · exact h
    · obtain ⟨vs, hv⟩ := heldL b z
      rw [e _ _ hv (fun _ z => by cases z)] at h
      cases h
      exact n _ rfl
  · have h1 := untb_le _ _ h
    exact e _ _ (R.sub _ _ h1) fun ps z => by subst z; exact untb_no _ _ h
  · obtain ⟨v, h1, h2⟩ := R.imm i d h
    exact ⟨v, h1, h2.monoN fun b x h n => untb_some h n⟩
  · obtain ⟨a, h1, g1, f1, vs, h2, h3⟩ := R.own i xs h
    refine ⟨a, h1, full_held ⟨i, xs, h, h1⟩, ?_, vs, e _ _ h2 (fun _ z => by cases z), h3.monoN fun b x h n => untb_some h n⟩
    cases q : untb F a with
    | none => rfl
    | some x => rw [untb_le _ _ q] at f1; cases f1
theorem R2.ext (R : R2 K T A G0 H σ ρ) (hn : NoTb G0) (e : Same H H') : R2 K T A G0 H' σ ρ := R.extN hn (ExtN.of e) (R.tabs.ext e)
/-- what may not change, chosen anew: all but the own lists and the tables -/
theorem R2.re (R : R2 K T A G0 H σ ρ) (hn : NoTb G0) : Same G0 (untb (full H σ ρ)) ∧ R2 K T A (untb (full H σ ρ)) H σ ρ := by
  obtain ⟨G, F, g, t, R⟩ := R
  exact ⟨fun b x h => untb_some (R.leFull _ _ (g _ _ h)) fun ps z => (by subst z; exact hn b ps h), full H σ ρ, F, untb_le, t.ext R.leFull, R.reG (.refl _)⟩
theorem R2.mono (R : R2 K T A G1 H σ ρ) (s : Same G0 G1) : R2 K T A G0 H σ ρ := let ⟨G, F, g, t, R⟩ := R.ex; ⟨G, F, s.trans g, t, R⟩
theorem R2.clr (R : R2 K T A G0 H σ ρ) (i : Nat) : R2 K T A G0 H σ (clrE ρ i) := let ⟨G, F, g, t, R⟩ := R.ex; ⟨G, F, g, t, R.clr i⟩
theorem R2.clrs (R : R2 K T A G0 H σ ρ) : ∀ is : List Nat, R2 K T A G0 H σ (clrAll is ρ)
  | [] => R
  | i :: is => by
    unfold clrAll
    exact (R.clrs is).clr i
/-- a slot of which nothing is told: stored anew -/
theorem R2.setU {i : Nat} {o : Option V} (R : R2 K T A G0 H σ ρ) (h : getE ρ i = none) (hA : ∀ p ∈ A, p.1 ≠ i) : R2 K T A G0 H (σ.set i o) ρ := by
  obtain ⟨G, F, g, t, R⟩ := R
  have ne : ∀ j o', getE ρ j = some o' → i ≠ j := fun j o' q z => by rw [← z, h] at q; cases q
  refine ⟨G, F, g, t, R.frm, R.sub, fun j d q => ?_, fun j xs q => ?_, fun j k xs ys a q1 q2 z1 z2 => ?_, fun p hp => ?_, by rw [List.length_set]; exact R.len⟩
  · rw [List.getElem?_set_ne (ne _ _ q)]
    exact R.imm j d q
  · rw [List.getElem?_set_ne (ne _ _ q)]
    exact R.own j xs q
  · rw [List.getElem?_set_ne (ne _ _ q1)] at z1
    rw [List.getElem?_set_ne (ne _ _ q2)] at z2
    exact R.dis j k xs ys a q1 q2 z1 z2
  · rw [List.getElem?_set_ne (hA p hp).symm]
    exact R.pin p hp
theorem R2.addPin {i : Nat} {a : Addr} (R : R2 K T A G0 H σ ρ) (h : σ[i]? = some (some (.ref a))) : R2 K T ((i, a) :: A) G0 H σ ρ := by
  obtain ⟨G, F, g, t, R⟩ := R
  refine ⟨G, F, g, t, R.frm, R.sub, R.imm, R.own, R.dis, fun p hp => ?_, R.len⟩
  rcases List.mem_cons.mp hp with rfl | hp
  · exact h
  · exact R.pin p hp
theorem R2.subPin {B : List (Nat × Addr)} (R : R2 K T A G0 H σ ρ) (h : ∀ p ∈ B, p ∈ A) : R2 K T B G0 H σ ρ :=
  let ⟨G, F, g, t, R⟩ := R.ex; ⟨G, F, g, t, R.frm, R.sub, R.imm, R.own, R.dis, fun p hp => R.pin p (h p hp), R.len⟩
theorem getE_clrs {is : List Nat} {i : Nat} (h : i ∈ is) (ρ : Env) : getE (clrAll is ρ) i = none := by rw [getE_clrAll, if_pos h]
/-- data, told in the heap itself -/
theorem R2.imm {i : Nat} {d : PyData} (R : R2 K T A G0 H σ ρ) (h : getE ρ i = some (.imm d)) : ∃ v, σ[i]? = some (some v) ∧ Dn K H v d := by
  obtain ⟨G, F, g, t, R⟩ := R
  obtain ⟨v, h1, h2⟩ := R.imm i d h
  exact ⟨v, h1, h2.mono R.sub⟩
end
section
variable {X : Cx} {T : List (Addr × Str)} {A : List (Nat × Addr)} {G0 : Hp} {cs : CS}
theorem s2_ps {st : Stmt} {is : IS} {t : TS} (h : PS X st t) (hw : ∀ σ H ρ out ρ', R2 X.K T A G0 H σ ρ → evS cs is ρ = some (out, ρ') → t (End2 X.K T A G0 out ρ') σ H) : S2 X T A G0 cs st is :=
  ⟨fun pins s σ H ρ out ρ' I R e => h.run pins s σ H _ I (hw σ H ρ out ρ' R e)⟩
theorem sb2_pss {st : List Stmt} {is : ISs} {t : TS} (h : PSs X st t) (hw : ∀ σ H ρ out ρ', R2 X.K T A G0 H σ ρ → evSs cs is ρ = some (out, ρ') → t (End2 X.K T A G0 out ρ') σ H) : SB2 X T A G0 cs st is :=
  ⟨fun pins s σ H ρ out ρ' I R e => h.run pins s σ H _ I (hw σ H ρ out ρ' R e)⟩
/-- x(..), x a local that holds a def of the module's -/
theorem pe_callV {CX : CXT} {k i : Nat} {f : Addr} {fd : FuncData} {ps : List Str} {sp : Sp} {E : XK} {y : Str} {p pos : Pos} {e : Expr} {es : List Expr} {t : TA} (F : FnOk X.prog X.w X.K X.mg X.base CX k f fd ps sp) (hr : Room k X.A) (hk : PySem.W.keepIn X.K (.ref f) = true) (hb : L2.Binds X.K fd ps []) (hx : Passes CX X E) (ha : PA X (e :: es) t)
    (hN : X.N[i]? = some y) (hv : Vis X.env.scope y) (hd : (y == ("__debug__" : Str)) = false := by decide) (hcd : (y == ("__classdict__" : Str)) = false := by decide)
    (he : starEach (e :: es) X.env = (false, eval e X.env) :: starEach es X.env := by rfl) (hpl : (backTo pos (starEach es X.env)).any (·.1) = false := by rfl) :
    PE X (.Call (.Name y p) (e :: es) [] pos) (fun σ H Q => σ[i]? = some (some (.ref f)) ∧ tCall sp [] E t σ H Q) := by
  refine ⟨fun pins s σ H Q I ⟨hs, h⟩ => ?_⟩
  refine wpAny_Call_Name_kw (thn ((pe_var (pos := p) (i := i) hN hv hd hcd).run pins s σ H (fun v H1 => v = .ref f ∧ H1 = H) I ⟨.ref f, hs, rfl, rfl⟩) fun u s1 ⟨v, H1, I1, r1, q1⟩ => ?_)
  obtain ⟨ev, eH⟩ := q1
  subst ev eH
  obtain rfl : u = Value.ref f := r1
  exact PySem.W.callWith_K (h₀ := X.base) I.ok.mod.kin hk (thn (ha.run pos pins s1 σ _ _ I1 h) fun us s2 ⟨vs, H2, I2, r, q⟩ => ⟨I2.kIn, run_fn F hr hb .nil hx I2 r q⟩) he hpl
end
end Ev
set_option Elab.async false
set_option linter.all false
set_option maxRecDepth 100000
/-! PK: reading the evaluator, in plain Lean. -/
namespace Ev
open PySem PySem.Spec
section
variable {cs : CS} {ρ : Env} {o : Option Ov} {i : Nat}
@[simp] theorem getE_z : getE (o :: ρ) 0 = o := by cases o <;> rfl
@[simp] theorem getE_s : getE (o :: ρ) (i + 1) = getE ρ i := rfl
@[simp] theorem setE_z {w : Ov} : setE (o :: ρ) 0 w = some w :: ρ := rfl
@[simp] theorem setE_s {w : Ov} : setE (o :: ρ) (i + 1) w = o :: setE ρ i w := rfl
@[simp] theorem clrE_z : clrE (o :: ρ) 0 = none :: ρ := rfl
@[simp] theorem clrE_s : clrE (o :: ρ) (i + 1) = o :: clrE ρ i := rfl
@[simp] theorem d_imm {d : PyData} : (Ov.imm d).d = d := rfl
@[simp] theorem d_own {xs : List PyData} : (Ov.own xs).d = .list xs := rfl
theorem ownE_eq {xs : List PyData} (h : getE ρ i = some (.own xs)) : ownE ρ i = some xs := by unfold ownE; rw [h]
/-! expressions -/
@[simp] theorem e_lit {c : PyData} : ev cs (.lit c) ρ = some (.imm c, ρ) := by unfold ev; rfl
@[simp] theorem e_glob {c : PyData} : ev cs (.glob c) ρ = some (.imm c, ρ) := by unfold ev; rfl
@[simp] theorem e_var : ev cs (.var i) ρ = (getE ρ i).map fun o => (.imm o.d, setE ρ i (.imm o.d)) := by unfold ev; rfl
@[simp] theorem e_bin {op : BOp} {a b : IE} : ev cs (.bin op a b) ρ = (ev cs a ρ).bind fun p => (ev cs b p.2).bind fun q => (binD op p.1.d q.1.d).map fun o => (o, q.2) := by rw [ev]
@[simp] theorem e_neg {a : IE} : ev cs (.neg a) ρ = (ev cs a ρ).bind fun p => (intOf p.1.d).map fun i => (.imm (.int (-i)), p.2) := by rw [ev]
@[simp] theorem e_bt {t : IT} : ev cs (.bt t) ρ = (evT cs t ρ).map fun p => (.imm (.bool p.1), p.2) := by rw [ev]
@[simp] theorem e_ife {t : IT} {a b : IE} : ev cs (.ife t a b) ρ = (evT cs t ρ).bind fun p => if p.1 = true then ev cs a p.2 else ev cs b p.2 := by
  rw [ev]; congr 1; funext p; rcases p with ⟨_ | _, _⟩ <;> rfl
@[simp] theorem e_tup {es : IEs} : ev cs (.tup es) ρ = (evs cs es ρ).bind fun p => (asD p.1).bind fun ds => if ds.length ≤ ll then some (.imm (.tuple ds), p.2) else none := by rw [ev]
@[simp] theorem e_lst {es : IEs} : ev cs (.lst es) ρ = (evs cs es ρ).bind fun p => (asD p.1).bind fun ds => if ds.length ≤ ll then some (.own ds, p.2) else none := by rw [ev]
@[simp] theorem e_idx {a i : IE} : ev cs (.idx a i) ρ = (ev cs a ρ).bind fun p => (ev cs i p.2).bind fun q => (idxD p.1.d q.1.d).map fun d => (.imm d, q.2) := by rw [ev]
@[simp] theorem e_idxv {x : Nat} {i : IE} : ev cs (.idxv x i) ρ = (getE ρ x).bind fun _ => (ev cs i ρ).bind fun q => (getE q.2 x).bind fun o => (idxD o.d q.1.d).map fun d => (.imm d, q.2) := by rw [ev]
@[simp] theorem e_slc {a : IE} {lo hi : IO} : ev cs (.slc a lo hi) ρ = (ev cs a ρ).bind fun p => (evO cs lo p.2).bind fun q => (evO cs hi q.2).bind fun r => (slcD p.1.d q.1 r.1).map fun o => (o, r.2) := by rw [ev]
@[simp] theorem e_slcv {x : Nat} {lo hi : IO} : ev cs (.slcv x lo hi) ρ = (getE ρ x).bind fun _ => (evO cs lo ρ).bind fun q => (evO cs hi q.2).bind fun r => (getE r.2 x).bind fun o => (slcD o.d q.1 r.1).map fun o => (o, r.2) := by rw [ev]
@[simp] theorem e_call {f : Nat} {args : IEs} : ev cs (.call f args) ρ = (evs cs args ρ).bind fun p => (arAll p.2 p.1).bind fun os => if (refsA p.1).Nodup then (cs f os).bind fun r => (putBack (refsA p.1) r.2 p.2).map fun ρ2 => (r.1, ρ2) else none := by rw [ev]
@[simp] theorem e_fn {b : Blt} {args : IEs} : ev cs (.fn b args) ρ = (evs cs args ρ).bind fun p => (asD p.1).bind fun ds => (fnD b ds).map fun o => (o, p.2) := by rw [ev]
@[simp] theorem e_fnv {b : Blt} {x : Nat} : ev cs (.fnv b x) ρ = (getE ρ x).bind fun o => (fnD b [o.d]).map fun r => (r, ρ) := by rw [ev]
@[simp] theorem e_isi {a : IE} {ts : List String} : ev cs (.isi a ts) ρ = (ev cs a ρ).map fun p => (.imm (.bool (isiD p.1.d ts)), p.2) := by rw [ev]
@[simp] theorem e_isiv {x : Nat} {ts : List String} : ev cs (.isiv x ts) ρ = (getE ρ x).map fun o => (.imm (.bool (isiD o.d ts)), ρ) := by rw [ev]
theorem backE_one {old : Env} {i : Nat} (h : getE old i = none) : backE old [i] ρ = clrE ρ i := by rw [backE, h]; rfl
theorem e_pop {x : Nat} {xs : List PyData} (h : getE ρ x = some (.own xs)) : ev cs (.pop x) ρ = (xs[xs.length - 1]?).map fun d => (.imm d, setE ρ x (.own xs.dropLast)) := by rw [ev, h]
theorem e_lc {is : List Nat} {g : IG} {t : IT} {e : IE} : ev cs (.lc is g t e) ρ = (evG cs g ρ).bind fun p => (goLc is (evT cs t) (ev cs e) p.1 (clrAll is p.2)).map fun r => (.own r.1, backE p.2 is r.2) := by rw [ev]
@[simp] theorem e_nil : evs cs .nil ρ = some ([], ρ) := by rw [evs]
@[simp] theorem e_cons {e : IE} {es : IEs} : evs cs (.cons e es) ρ = (ev cs e ρ).bind fun p => (evs cs es p.2).map fun q => (.d p.1.d :: q.1, q.2) := by rw [evs]
@[simp] theorem e_ref {x : Nat} {es : IEs} : evs cs (.ref x es) ρ = (getE ρ x).bind fun _ => (evs cs es ρ).map fun q => (.r x :: q.1, q.2) := by rw [evs]
@[simp] theorem e_non : evO cs .non ρ = some (none, ρ) := by rw [evO]
@[simp] theorem e_som {e : IE} : evO cs (.som e) ρ = (ev cs e ρ).bind fun p => (intOf p.1.d).map fun i => (some i, p.2) := by rw [evO]
@[simp] theorem e_callk {f : Nat} {pm : List Nat} {args : IEs} : ev cs (.callk f pm args) ρ = (evs cs args ρ).bind fun p => (asD p.1).bind fun ds => (permD pm ds).bind fun es => (cs f (es.map Ov.imm)).bind fun r => if r.2 = [] then some (r.1, p.2) else none := by rw [ev]
@[simp] theorem permD_nil {ds : List PyData} : permD [] ds = some [] := rfl
@[simp] theorem permD_cons {i : Nat} {pm : List Nat} {ds : List PyData} : permD (i :: pm) ds = (ds[i]?).bind fun d => (permD pm ds).map (d :: ·) := rfl
@[simp] theorem e_prim {g : Env → Option (Ov × Env)} : ev cs (.prim g) ρ = g ρ := by rw [ev]
/-! tests -/
@[simp] theorem t_tt : evT cs .tt ρ = some (true, ρ) := by rw [evT]
@[simp] theorem t_val {e : IE} : evT cs (.val e) ρ = (ev cs e ρ).bind fun p => (truD p.1.d).map fun b => (b, p.2) := by rw [evT]
@[simp] theorem t_valv {x : Nat} : evT cs (.valv x) ρ = (getE ρ x).bind fun o => (truD o.d).map fun b => (b, ρ) := by rw [evT]
@[simp] theorem t_bv {e : IE} : evT cs (.bv e) ρ = (ev cs e ρ).bind fun p => (boolOf p.1.d).map fun b => (b, p.2) := by rw [evT]
@[simp] theorem t_cmp {op : COp} {a b : IE} : evT cs (.cmp op a b) ρ = (ev cs a ρ).bind fun p => (ev cs b p.2).bind fun q => (cmpD op p.1.d q.1.d).map fun k => (k, q.2) := by rw [evT]
@[simp] theorem t_chain {o1 o2 : COp} {a b c : IE} : evT cs (.chain o1 o2 a b c) ρ = (ev cs a ρ).bind fun p => (ev cs b p.2).bind fun q => (cmpD o1 p.1.d q.1.d).bind fun k => if k = true then (ev cs c q.2).bind fun r => (cmpD o2 q.1.d r.1.d).map fun k => (k, r.2) else some (false, q.2) := by
  rw [evT]; congr 1; funext p; congr 1; funext q; congr 1; funext k; cases k <;> rfl
@[simp] theorem t_and {a b : IT} : evT cs (.and a b) ρ = (evT cs a ρ).bind fun p => if p.1 = true then evT cs b p.2 else some (false, p.2) := by
  rw [evT]; congr 1; funext p; rcases p with ⟨_ | _, _⟩ <;> rfl
@[simp] theorem t_or {a b : IT} : evT cs (.or a b) ρ = (evT cs a ρ).bind fun p => if p.1 = true then some (true, p.2) else evT cs b p.2 := by
  rw [evT]; congr 1; funext p; rcases p with ⟨_ | _, _⟩ <;> rfl
@[simp] theorem t_not {a : IT} : evT cs (.not a) ρ = (evT cs a ρ).map fun p => (!p.1, p.2) := by rw [evT]
/-! iterables -/
@[simp] theorem g_seq {e : IE} : evG cs (.seq e) ρ = (ev cs e ρ).bind fun p => (seqOf p.1.d).map fun xs => (xs, p.2) := by rw [evG]
theorem g_rng1 {e : IE} : evG cs (.rng1 e) ρ = (ev cs e ρ).bind fun p => (intOf p.1.d).bind fun k => if small k && decide (k ≤ ll) then some (rngD 0 k.toNat, p.2) else none := by rw [evG]
theorem g_rng2 {a b : IE} : evG cs (.rng2 a b) ρ = (ev cs a ρ).bind fun p => (ev cs b p.2).bind fun q => (intOf p.1.d).bind fun i => (intOf q.1.d).bind fun j => if small i && small j && decide (j - i ≤ ll) then some (rngD i (j - i).toNat, q.2) else none := by rw [evG]
@[simp] theorem g_enum {e : IE} : evG cs (.enum e) ρ = (ev cs e ρ).bind fun p => (seqOf p.1.d).map fun xs => (enumL 0 xs, p.2) := by rw [evG]
@[simp] theorem g_zip {a b : IE} : evG cs (.zip a b) ρ = (ev cs a ρ).bind fun p => (ev cs b p.2).bind fun q => (pairOf p.1.d q.1.d).map fun r => (zipL r.1 r.2, q.2) := by rw [evG]
@[simp] theorem g_rev {e : IE} : evG cs (.rev e) ρ = (ev cs e ρ).bind fun p => (seqOf p.1.d).map fun xs => (xs.reverse, p.2) := by rw [evG]
theorem rng_ok {n : Nat} (h : n ≤ 1000000) : small (n : Int) = true ∧ n ≤ ll := by
  refine ⟨?_, ?_⟩
  · unfold small
    rw [Bool.and_eq_true, decide_eq_true_eq, decide_eq_true_eq]
    omega
  · unfold ll; omega
theorem rng_c {n : Nat} (h : n ≤ 1000000) : (small (n : Int) && decide ((n : Int) ≤ ((ll : Nat) : Int))) = true := by
  rw [(rng_ok h).1, Bool.true_and, decide_eq_true_eq]
  exact Int.ofNat_le.mpr (rng_ok h).2
theorem rng_c2 {i n : Nat} (hi : i ≤ 1000000) (h : n ≤ 1000000) : (small (i : Int) && small (n : Int) && decide ((n : Int) - (i : Int) ≤ ((ll : Nat) : Int))) = true := by
  rw [(rng_ok h).1, (rng_ok hi).1, Bool.true_and, Bool.true_and, decide_eq_true_eq]
  have := Int.ofNat_le.mpr (rng_ok h).2
  omega
theorem g_rng1N {e : IE} {n : Nat} {ρ1 : Env} (h : ev cs e ρ = some (.imm (.int n), ρ1)) (hn : n ≤ 1000000) : evG cs (.rng1 e) ρ = some (rngD 0 n, ρ1) := by
  rw [g_rng1]
  refine Option.bind_eq_some_iff.mpr ⟨_, h, Option.bind_eq_some_iff.mpr ⟨_, rfl, ?_⟩⟩
  refine (if_pos (rng_c hn)).trans ?_
  rw [Int.toNat_natCast]
theorem g_rng2N {a b : IE} {i n : Nat} {ρ1 ρ2 : Env} (h : ev cs a ρ = some (.imm (.int i), ρ1)) (h' : ev cs b ρ1 = some (.imm (.int n), ρ2)) (hi : i ≤ 1000000) (hn : n ≤ 1000000) : evG cs (.rng2 a b) ρ = some (rngD i (n - i), ρ2) := by
  rw [g_rng2]
  refine Option.bind_eq_some_iff.mpr ⟨_, h, Option.bind_eq_some_iff.mpr ⟨_, h', Option.bind_eq_some_iff.mpr ⟨_, rfl, Option.bind_eq_some_iff.mpr ⟨_, rfl, ?_⟩⟩⟩⟩
  refine (if_pos (rng_c2 hi hn)).trans ?_
  rw [show ((n : Int) - (i : Int)).toNat = n - i by omega]
/-! statements -/
@[simp] theorem s_set {e : IE} : evS cs (.set i e) ρ = (ev cs e ρ).map fun p => (.next, setE p.2 i p.1) := by rw [evS]
@[simp] theorem s_par {is : List Nat} {es : IEs} : evS cs (.par is es) ρ = (evs cs es ρ).bind fun p => (asD p.1).bind fun ds => (setAll is ds p.2).map fun ρ2 => (.next, ρ2) := by rw [evS]
theorem s_unp {is : List Nat} {e : IE} {ds : List PyData} {ov : Ov} {ρ1 : Env} (h : ev cs e ρ = some (ov, ρ1)) (hd : ov.d = .tuple ds) : evS cs (.unp is e) ρ = (setAll is ds ρ1).map fun ρ2 => (.next, ρ2) := by rw [evS, h]; simp [hd]
@[simp] theorem s_put {x : Nat} {i e : IE} : evS cs (.put x i e) ρ = (ev cs e ρ).bind fun p => (getE p.2 x).bind fun _ => (ev cs i p.2).bind fun q => (intOf q.1.d).bind fun k => (ownE q.2 x).bind fun xs => (ixN xs.length k).map fun j => (.next, setE q.2 x (.own (xs.set j p.1.d))) := by
  rw [evS]; congr 1; funext p; congr 1; funext _; congr 1; funext q; congr 1; funext k
  unfold ownE; cases getE q.2 x with
  | none => rfl
  | some o => cases o <;> rfl
@[simp] theorem s_augA {x : Nat} {e : IE} : evS cs (.aug x .add e) ρ = (getE ρ x).bind fun o => (intOf o.d).bind fun i => (ev cs e ρ).bind fun p => (intOf p.1.d).map fun j => (.next, setE p.2 x (.imm (.int (i + j)))) := by
  rw [evS]; congr 1; funext o; congr 1; funext i; congr 1; funext p; cases intOf p.1.d <;> rfl
@[simp] theorem s_app {x : Nat} {e : IE} : evS cs (.app x e) ρ = (ownE ρ x).bind fun _ => (ev cs e ρ).bind fun p => (ownE p.2 x).bind fun xs => if xs.length < ll then some (.next, setE p.2 x (.own (xs ++ [p.1.d]))) else none := by
  rw [evS]; congr 1; funext _; congr 1; funext p
  unfold ownE; cases getE p.2 x with
  | none => rfl
  | some o => cases o <;> rfl
@[simp] theorem s_ex {e : IE} : evS cs (.ex e) ρ = (ev cs e ρ).map fun p => (.next, p.2) := by rw [evS]
@[simp] theorem s_ite {t : IT} {a b : ISs} : evS cs (.ite t a b) ρ = (evT cs t ρ).bind fun p => if p.1 = true then evSs cs a p.2 else evSs cs b p.2 := by
  rw [evS]; congr 1; funext p; rcases p with ⟨_ | _, _⟩ <;> rfl
theorem s_whl {t : IT} {b : ISs} : evS cs (.whl t b) ρ = whl (evT cs t) (evSs cs b) ρ := by rw [evS]
theorem s_loop {is : List Nat} {g : IG} {b : ISs} : evS cs (.loop is g b) ρ = (evG cs g ρ).bind fun p => goFor is (evSs cs b) p.1 p.2 := by rw [evS]
@[simp] theorem s_ret {e : IE} : evS cs (.ret e) ρ = (ev cs e ρ).map fun p => (.ret p.1, p.2) := by rw [evS]
@[simp] theorem s_retv {x : Nat} : evS cs (.retv x) ρ = (getE ρ x).map fun o => (.ret o, clrE ρ x) := by rw [evS]
@[simp] theorem s_retN : evS cs .retN ρ = some (.ret (.imm .none), ρ) := by rw [evS]
@[simp] theorem s_pass : evS cs .pass ρ = some (.next, ρ) := by rw [evS]
@[simp] theorem s_brk : evS cs .brk ρ = some (.brk, ρ) := by rw [evS]
@[simp] theorem s_cont : evS cs .cont ρ = some (.cont, ρ) := by rw [evS]
@[simp] theorem s_prim {g : Env → Option (Out × Env)} : evS cs (.prim g) ρ = g ρ := by rw [evS]
@[simp] theorem b_nil : evSs cs .nil ρ = some (.next, ρ) := by rw [evSs]
/-- a block goes on -/
def thenB (k : Env → Option (Out × Env)) : Out × Env → Option (Out × Env)
  | (.next, ρ) => k ρ
  | (.brk, ρ) => some (.brk, ρ)
  | (.cont, ρ) => some (.cont, ρ)
  | (.ret v, ρ) => some (.ret v, ρ)
@[simp] theorem b_cons {s : IS} {ss : ISs} : evSs cs (.cons s ss) ρ = (evS cs s ρ).bind (thenB (evSs cs ss)) := by
  rw [evSs]; congr 1
@[simp] theorem thenB_next {k : Env → Option (Out × Env)} : thenB k (.next, ρ) = k ρ := rfl
@[simp] theorem thenB_brk {k : Env → Option (Out × Env)} : thenB k (.brk, ρ) = some (.brk, ρ) := rfl
@[simp] theorem thenB_cont {k : Env → Option (Out × Env)} : thenB k (.cont, ρ) = some (.cont, ρ) := rfl
@[simp] theorem thenB_ret {k : Env → Option (Out × Env)} {v : Ov} : thenB k (.ret v, ρ) = some (.ret v, ρ) := rfl
/-! loops -/
theorem whl_eq {test : Env → Option (Bool × Env)} {body : Env → Option (Out × Env)} : whl test body ρ = (test ρ).bind fun p => if p.1 = true then (body p.2).bind fun q => match q.1 with
    | .next => whl test body q.2
    | .cont => whl test body q.2
    | .brk => some (.next, q.2)
    | .ret v => some (.ret v, q.2)
  else some (.next, p.2) := by
  rw [whl]
  cases test ρ with
  | none => rfl
  | some p =>
    show (if p.1 = true then _ else _) = (if p.1 = true then _ else _)
    split
    · cases body p.2 with
      | none => rfl
      | some q => rcases q with ⟨_ | _ | _ | _, _⟩ <;> rfl
    · rfl
theorem whl_stop {test : Env → Option (Bool × Env)} {body : Env → Option (Out × Env)} {ρ1 : Env} (h : test ρ = some (false, ρ1)) : whl test body ρ = some (.next, ρ1) := by rw [whl_eq, h]; rfl
theorem whl_go {test : Env → Option (Bool × Env)} {body : Env → Option (Out × Env)} {ρ1 ρ2 : Env} (h : test ρ = some (true, ρ1)) (hb : body ρ1 = some (.next, ρ2)) : whl test body ρ = whl test body ρ2 := by rw [whl_eq, h]; simp [hb]
theorem goFor_nil {is : List Nat} {body : Env → Option (Out × Env)} : goFor is body [] ρ = some (.next, ρ) := by rw [goFor]
theorem goFor_go {is : List Nat} {body : Env → Option (Out × Env)} {d : PyData} {ds : List PyData} {ρ1 ρ2 : Env} (h : bindPat is d ρ = some ρ1) (hb : body ρ1 = some (.next, ρ2)) : goFor is body (d :: ds) ρ = goFor is body ds ρ2 := by rw [goFor, h]; simp [hb]
theorem goFor_ret {is : List Nat} {body : Env → Option (Out × Env)} {d : PyData} {ds : List PyData} {ρ1 ρ2 : Env} {v : Ov} (h : bindPat is d ρ = some ρ1) (hb : body ρ1 = some (.ret v, ρ2)) : goFor is body (d :: ds) ρ = some (.ret v, ρ2) := by rw [goFor, h]; simp [hb]
theorem goLc_nil {is : List Nat} {t : Env → Option (Bool × Env)} {e : Env → Option (Ov × Env)} : goLc is t e [] ρ = some ([], ρ) := by rw [goLc]
theorem goLc_go {is : List Nat} {t : Env → Option (Bool × Env)} {e : Env → Option (Ov × Env)} {d : PyData} {ds : List PyData} {ρ1 ρ2 ρ3 : Env} {o : Ov} (h : bindPat is d ρ = some ρ1) (ht : t ρ1 = some (true, ρ2)) (he : e ρ2 = some (o, ρ3)) :
    goLc is t e (d :: ds) ρ = (goLc is t e ds (clrAll is ρ3)).map fun r => (o.d :: r.1, r.2) := by rw [goLc, h]; simp [ht, he]
theorem goLc_no {is : List Nat} {t : Env → Option (Bool × Env)} {e : Env → Option (Ov × Env)} {d : PyData} {ds : List PyData} {ρ1 ρ2 : Env} (h : bindPat is d ρ = some ρ1) (ht : t ρ1 = some (false, ρ2)) :
    goLc is t e (d :: ds) ρ = goLc is t e ds (clrAll is ρ2) := by rw [goLc, h]; simp [ht]
/-- a comprehension without a test, that leaves the locals as they are -/
theorem goLc_map {is : List Nat} {e : Env → Option (Ov × Env)} {t : Env → Option (Bool × Env)} (f : PyData → PyData) {ds : List PyData} (hc : clrAll is ρ = ρ)
    (h : ∀ d ∈ ds, ∃ ρ1 ρ2 ρ3 o, bindPat is d ρ = some ρ1 ∧ t ρ1 = some (true, ρ2) ∧ e ρ2 = some (o, ρ3) ∧ o.d = f d ∧ clrAll is ρ3 = ρ) : goLc is t e ds ρ = some (ds.map f, ρ) := by
  induction ds with
  | nil => exact goLc_nil
  | cons d ds ih =>
    obtain ⟨ρ1, ρ2, ρ3, o, h1, h2, h3, h4, h5⟩ := h d List.mem_cons_self
    rw [goLc_go h1 h2 h3, h5, ih fun x hx => h x (List.mem_cons_of_mem _ hx), h4]
    rfl
end
/-! calls -/
/-- a call's end -/
def endC (io : List Nat) : Out × Env → Option (Ov × List (List PyData))
  | (.ret o, ρ) => (outs io ρ).map fun l => (o, l)
  | (.next, ρ) => (outs io ρ).map fun l => (.imm .none, l)
  | (.brk, _) => none
  | (.cont, _) => none
theorem callN_code {Φ : Nat → Option FX} {n f : Nat} {d : FD} {os : List Ov} (h : Φ f = some (.code d)) (h1 : os.length = d.np) (h2 : owns os = d.io) :
    callN Φ (n + 1) f os = (evSs (callN Φ n) d.body (start0 d os)).bind (endC d.io) := by
  rw [callN, h]; dsimp only; rw [if_pos ⟨h1, h2⟩]; congr 1; funext p; rcases p with ⟨_ | _ | _ | _, _⟩ <;> rfl
theorem callN_ret {Φ : Nat → Option FX} {n f : Nat} {d : FD} {os : List Ov} {o : Ov} {ρ : Env} {l : List (List PyData)} (h : Φ f = some (.code d)) (h1 : os.length = d.np) (h2 : owns os = d.io) (hb : evSs (callN Φ n) d.body (start0 d os) = some (.ret o, ρ)) (ho : outs d.io ρ = some l) :
    callN Φ (n + 1) f os = some (o, l) := by rw [callN_code h h1 h2, hb]; simp [endC, ho]
theorem callN_next {Φ : Nat → Option FX} {n f : Nat} {d : FD} {os : List Ov} {ρ : Env} {l : List (List PyData)} (h : Φ f = some (.code d)) (h1 : os.length = d.np) (h2 : owns os = d.io) (hb : evSs (callN Φ n) d.body (start0 d os) = some (.next, ρ)) (ho : outs d.io ρ = some l) :
    callN Φ (n + 1) f os = some (.imm .none, l) := by rw [callN_code h h1 h2, hb]; simp [endC, ho]
section
variable {ρ : Env}
@[simp] theorem endC_ret {io : List Nat} {o : Ov} : endC io (.ret o, ρ) = (outs io ρ).map fun l => (o, l) := rfl
@[simp] theorem endC_next {io : List Nat} : endC io (.next, ρ) = (outs io ρ).map fun l => (.imm .none, l) := rfl
@[simp] theorem asD_nil : asD [] = some [] := rfl
@[simp] theorem asD_cons {x : PyData} {r : List Ar} : asD (.d x :: r) = (asD r).map (x :: ·) := rfl
@[simp] theorem setAll_nil : setAll [] [] ρ = some ρ := rfl
@[simp] theorem setAll_cons {i : Nat} {is : List Nat} {d : PyData} {ds : List PyData} : setAll (i :: is) (d :: ds) ρ = setAll is ds (setE ρ i (.imm d)) := rfl
@[simp] theorem bindPat_one {i : Nat} {d : PyData} : bindPat [i] d ρ = some (setE ρ i (.imm d)) := by cases d <;> rfl
@[simp] theorem bindPat_two {i j : Nat} {is : List Nat} {ds : List PyData} : bindPat (i :: j :: is) (.tuple ds) ρ = setAll (i :: j :: is) ds ρ := rfl
@[simp] theorem clrAll_nil : clrAll [] ρ = ρ := rfl
@[simp] theorem clrAll_cons {i : Nat} {is : List Nat} : clrAll (i :: is) ρ = clrE (clrAll is ρ) i := rfl
@[simp] theorem backE_nil {old : Env} : backE old [] ρ = ρ := rfl
theorem backE_imm {old : Env} {i : Nat} {is : List Nat} {d : PyData} (h : getE old i = some (.imm d)) : backE old (i :: is) ρ = setE (backE old is ρ) i (.imm d) := by rw [backE, h]
theorem backE_non {old : Env} {i : Nat} {is : List Nat} (h : getE old i = none) : backE old (i :: is) ρ = clrE (backE old is ρ) i := by rw [backE, h]
@[simp] theorem arAll_nil : arAll ρ [] = some [] := rfl
@[simp] theorem arAll_d {x : PyData} {r : List Ar} : arAll ρ (.d x :: r) = (arAll ρ r).map (.imm x :: ·) := rfl
@[simp] theorem arAll_r {x : Nat} {r : List Ar} : arAll ρ (.r x :: r) = (ownE ρ x).bind fun xs => (arAll ρ r).map (.own xs :: ·) := by
  show ((ownE ρ x).map Ov.own).bind _ = _
  cases ownE ρ x <;> rfl
@[simp] theorem refsA_nil : refsA [] = [] := rfl
@[simp] theorem refsA_d {x : PyData} {r : List Ar} : refsA (.d x :: r) = refsA r := rfl
@[simp] theorem refsA_r {x : Nat} {r : List Ar} : refsA (.r x :: r) = x :: refsA r := rfl
@[simp] theorem putBack_nil : putBack [] [] ρ = some ρ := rfl
@[simp] theorem putBack_cons {x : Nat} {xs : List Nat} {l : List PyData} {ls : List (List PyData)} : putBack (x :: xs) (l :: ls) ρ = putBack xs ls (setE ρ x (.own l)) := rfl
@[simp] theorem outs_nil : outs [] ρ = some [] := rfl
@[simp] theorem outs_cons {i : Nat} {is : List Nat} : outs (i :: is) ρ = (ownE ρ i).bind fun xs => (outs is ρ).map (xs :: ·) := by
  unfold ownE; rw [outs]; cases getE ρ i with
  | none => rfl
  | some o => cases o <;> rfl
@[simp] theorem ownE_z {xs : List PyData} : ownE (some (.own xs) :: ρ) 0 = some xs := rfl
@[simp] theorem ownE_s {o : Option Ov} {i : Nat} : ownE (o :: ρ) (i + 1) = ownE ρ i := rfl
@[simp] theorem owns_eq {os : List Ov} : owns os = ownsF 0 os := rfl
@[simp] theorem ownsF_nil {k : Nat} : ownsF k [] = [] := rfl
@[simp] theorem ownsF_own {k : Nat} {xs : List PyData} {os : List Ov} : ownsF k (.own xs :: os) = k :: ownsF (k + 1) os := rfl
@[simp] theorem ownsF_imm {k : Nat} {x : PyData} {os : List Ov} : ownsF k (.imm x :: os) = ownsF (k + 1) os := rfl
@[simp] theorem start0_eq {d : FD} {os : List Ov} : start0 d os = os.map some ++ List.replicate (d.ns - os.length) none := rfl
@[simp] theorem binD_add {i j : Int} : binD .add (.int i) (.int j) = some (.imm (.int (i + j))) := rfl
@[simp] theorem binD_sub {i j : Int} : binD .sub (.int i) (.int j) = some (.imm (.int (i - j))) := rfl
@[simp] theorem binD_mul {i j : Int} : binD .mul (.int i) (.int j) = if mulOk i j then some (.imm (.int (i * j))) else none := rfl
@[simp] theorem binD_fdiv {i j : Int} : binD .fdiv (.int i) (.int j) = if divOk j then some (.imm (.int (i.fdiv j))) else none := rfl
@[simp] theorem binD_mod {i j : Int} : binD .mod (.int i) (.int j) = if j ≠ 0 then some (.imm (.int (i.fmod j))) else none := rfl
@[simp] theorem binD_pow {i j : Int} : binD .pow (.int i) (.int j) = if powOk i j then some (.imm (.int (i ^ j.toNat))) else none := rfl
@[simp] theorem binD_addL {xs ys : List PyData} : binD .add (.list xs) (.list ys) = if xs.length + ys.length ≤ ll then some (.own (xs ++ ys)) else none := rfl
@[simp] theorem binD_mulL {xs : List PyData} {k : Int} : binD .mul (.list xs) (.int k) = if repOk xs.length k then some (.own (List.replicate k.toNat xs).flatten) else none := rfl
@[simp] theorem truD_int {i : Int} : truD (.int i) = some (i != 0) := rfl
@[simp] theorem truD_bool {b : Bool} : truD (.bool b) = some b := rfl
@[simp] theorem truD_list {xs : List PyData} : truD (.list xs) = some (!xs.isEmpty) := rfl
@[simp] theorem truD_tuple {xs : List PyData} : truD (.tuple xs) = some (!xs.isEmpty) := rfl
@[simp] theorem intOf_int {i : Int} : intOf (.int i) = some i := rfl
@[simp] theorem boolOf_bool {b : Bool} : boolOf (.bool b) = some b := rfl
@[simp] theorem seqOf_list {xs : List PyData} : seqOf (.list xs) = some xs := rfl
@[simp] theorem seqOf_tuple {xs : List PyData} : seqOf (.tuple xs) = some xs := rfl
@[simp] theorem listOf_list {xs : List PyData} : listOf (.list xs) = some xs := rfl
@[simp] theorem cmpD_eq {a b : PyData} : cmpD .eq a b = eqD a b := rfl
@[simp] theorem cmpD_ne {a b : PyData} : cmpD .ne a b = (eqD a b).map (!·) := rfl
@[simp] theorem cmpD_lt {i j : Int} : cmpD .lt (.int i) (.int j) = some (decide (i < j)) := rfl
@[simp] theorem cmpD_le {i j : Int} : cmpD .le (.int i) (.int j) = some (decide (i ≤ j)) := rfl
@[simp] theorem cmpD_gt {i j : Int} : cmpD .gt (.int i) (.int j) = some (decide (j < i)) := rfl
@[simp] theorem cmpD_ge {i j : Int} : cmpD .ge (.int i) (.int j) = some (decide (j ≤ i)) := rfl
@[simp] theorem eqD_int {i j : Int} : eqD (.int i) (.int j) = some (decide (i = j)) := by
  simp [eqD, SeqAt.shaped, PyData.canLay0, PyData.depth, PyData.eqv]; rfl
@[simp] theorem fnD_lenL {xs : List PyData} : fnD .len [.list xs] = some (.imm (.int xs.length)) := rfl
@[simp] theorem fnD_lenT {xs : List PyData} : fnD .len [.tuple xs] = some (.imm (.int xs.length)) := rfl
@[simp] theorem fnD_abs {i : Int} : fnD .abs [.int i] = some (.imm (.int (i.natAbs : Nat))) := by
  show some (Ov.imm (.int (if i < 0 then -i else i))) = _
  congr 3
  split <;> omega
@[simp] theorem fnD_int {i : Int} : fnD .int [.int i] = some (.imm (.int i)) := rfl
@[simp] theorem fnD_max {i j : Int} : fnD .max [.int i, .int j] = some (.imm (.int (max i j))) := by
  show some (Ov.imm (.int (if j > i then j else i))) = _
  congr 3
  split <;> omega
@[simp] theorem fnD_min {i j : Int} : fnD .min [.int i, .int j] = some (.imm (.int (min i j))) := by
  show some (Ov.imm (.int (if j < i then j else i))) = _
  congr 3
  split <;> omega
@[simp] theorem fnD_all {xs : List PyData} : fnD .all [.list xs] = (bools xs).map fun bs => .imm (.bool (bs.all id)) := rfl
@[simp] theorem fnD_listL {xs : List PyData} : fnD .list [.list xs] = some (.own xs) := rfl
@[simp] theorem fnD_listT {xs : List PyData} : fnD .list [.tuple xs] = some (.own xs) := rfl
@[simp] theorem fnD_tupleL {xs : List PyData} : fnD .tuple [.list xs] = some (.imm (.tuple xs)) := rfl
@[simp] theorem fnD_tupleT {xs : List PyData} : fnD .tuple [.tuple xs] = some (.imm (.tuple xs)) := rfl
@[simp] theorem idxD_list {xs : List PyData} {i : Int} : idxD (.list xs) (.int i) = atD xs i := rfl
@[simp] theorem idxD_tuple {xs : List PyData} {i : Int} : idxD (.tuple xs) (.int i) = atD xs i := rfl
@[simp] theorem atD_nat {xs : List PyData} {k : Nat} : atD xs (k : Int) = xs[k]? := by
  unfold atD ixN
  by_cases h : k < xs.length
  · rw [if_pos (by omega), if_pos (by omega)]; simp
  · rw [if_pos (by omega), if_neg (by omega)]; simp; omega
@[simp] theorem atD_0 {xs : List PyData} : atD xs 0 = xs[0]? := atD_nat (k := 0)
@[simp] theorem atD_1 {xs : List PyData} : atD xs 1 = xs[1]? := atD_nat (k := 1)
@[simp] theorem atD_2 {xs : List PyData} : atD xs 2 = xs[2]? := atD_nat (k := 2)
@[simp] theorem atD_last {xs : List PyData} : atD xs (-1) = xs.getLast? := by
  unfold atD ixN
  rw [if_neg (by omega)]
  by_cases h : xs = []
  · subst h; rfl
  · have : 0 < xs.length := List.length_pos_iff.mpr h
    rw [if_pos (by omega), List.getLast?_eq_getElem?]
    show xs[(-1 + (xs.length : Int)).toNat]? = _
    congr 1; omega
theorem bools_map (f : PyData → Bool) (xs : List PyData) : bools (xs.map fun x => .bool (f x)) = some (xs.map f) := by
  induction xs with
  | nil => rfl
  | cons x xs ih => show (bools (xs.map fun x => PyData.bool (f x))).map (f x :: ·) = _; rw [ih]; rfl
end
end Ev
set_option Elab.async false
set_option linter.all false
set_option maxRecDepth 100000
/-! S4: blocks one behind the other. -/
namespace Ev
open PySem PySem.Spec PyProof.Rows L2 RT RZ LamX LamD
theorem execs_app (env : PySem.Env) (l1 l2 : List Stmt) : execs (l1 ++ l2) env = (do match ← execs l1 env with | .next => execs l2 env | f => pure f) := by
  induction l1 with
  | nil =>
    show execs l2 env = (pure Flow.next >>= _)
    rw [pure_bind]
  | cons st rest ih =>
    rw [List.cons_append]
    show (exec st env >>= _) = ((exec st env >>= _) >>= _)
    rw [bind_assoc]
    congr 1
    funext f
    cases f with
    | next => exact ih
    | _ => rw [pure_bind]
theorem pss_app {X : Cx} {l1 l2 : List Stmt} {t u : TS} (h1 : PSs X l1 t) (h2 : PSs X l2 u) : PSs X (l1 ++ l2) (tSeq t u) := by
  refine ⟨fun pins s σ H D I h => ?_⟩
  rw [execs_app]
  refine wpAny_bind (thn (h1.run pins s σ H { D with nx := u D } I h) fun f s1 q => ?_)
  cases f with
  | next =>
    obtain ⟨σ', H', I', q⟩ := q
    exact h2.run pins s1 σ' H' D I' q
  | ret v => exact wpAny_pure q
  | brk => exact wpAny_pure q
  | cont => exact wpAny_pure q
def appI : ISs → ISs → ISs
  | .nil, b => b
  | .cons s a, b => .cons s (appI a b)
section
variable {X : Cx} {T : List (Addr × Str)} {A : List (Nat × Addr)} {G0 : Hp} {cs : CS}
theorem evSs_app : ∀ {a b : ISs} {ρ : Env}, evSs cs (appI a b) ρ = (evSs cs a ρ).bind fun p => match p with
    | (.next, ρ1) => evSs cs b ρ1
    | p => some p
  | .nil, b, ρ => by rw [show evSs cs .nil ρ = some (.next, ρ) from by rw [evSs]]; rfl
  | .cons s a, b, ρ => by
    show evSs cs (.cons s (appI a b)) ρ = _
    rw [evSs, evSs]
    cases h : evS cs s ρ with
    | none => rfl
    | some p =>
      obtain ⟨o, ρ1⟩ := p
      cases o with
      | next => exact evSs_app (a := a) (b := b) (ρ := ρ1)
      | _ => rfl
theorem sb2_app {l1 l2 : List Stmt} {a b : ISs} (h1 : SB2 X T A G0 cs l1 a) (h2 : SB2 X T A G0 cs l2 b) : SB2 X T A G0 cs (l1 ++ l2) (appI a b) := by
  refine ⟨fun pins s σ H ρ out ρ' I R e => ?_⟩
  rw [evSs_app] at e
  obtain ⟨⟨o1, ρ1⟩, e1, e⟩ := Option.bind_eq_some_iff.mp e
  rw [execs_app]
  refine wpAny_bind (thn (h1.run pins s σ H ρ o1 ρ1 I R e1) fun f s1 q => ?_)
  cases f with
  | next =>
    obtain ⟨σ1, H1, I1, z, R1⟩ := q
    cases z
    exact h2.run pins s1 σ1 H1 ρ1 out ρ' I1 R1 e
  | brk =>
    obtain ⟨σ1, H1, I1, z, R1⟩ := q
    cases z; cases e
    exact wpAny_pure ⟨σ1, H1, I1, rfl, R1⟩
  | cont =>
    obtain ⟨σ1, H1, I1, z, R1⟩ := q
    cases z; cases e
    exact wpAny_pure ⟨σ1, H1, I1, rfl, R1⟩
  | ret u =>
    obtain ⟨v, σ1, H1, I1, r, o, σ2, z, q⟩ := q
    cases z; cases e
    exact wpAny_pure ⟨v, σ1, H1, I1, r, o, σ2, rfl, q⟩
/-- an expression, what may not change chosen where it is read -/
def tEvAny (K : Frag) (A : List (Nat × Addr)) (cs : CS) (ie : IE) : TE := fun σ H Q => ∃ G F ρ o ρ', Rel K A G F H σ ρ ∧ ev cs ie ρ = some (o, ρ') ∧ ∀ v H', Post K A G F σ ρ' o v H' → Q v H'
theorem pe_evAny {e : Expr} {ie : IE} (h : ∀ G, SE X A G cs e ie) : PE X e (tEvAny X.K A cs ie) :=
  ⟨fun pins s σ H Q I ⟨G, F, ρ, o, ρ', R, he, k⟩ => thn ((h G).run pins s σ H F ρ o ρ' I R he) fun u s' ⟨v, H', I', r, p⟩ => ⟨v, H', I', r, k v H' p⟩⟩
/-- a new list of the reading's: may not change from here on -/
theorem own_step {K : Frag} {A : List (Nat × Addr)} {G F H' : Hp} {σ : L2.St} {ρ' : Env} {xs : List PyData} {v : V} (P : Post K A G F σ ρ' (.own xs) v H') : ∃ F' a ws, v = .ref a ∧ Same F F' ∧ G a = none ∧ F' a = none ∧ (∀ b, F b = none → G b ≠ none → F' b = none) ∧ H' a = some (.lst ws) ∧ DnA K F' ws xs ∧ Rel K A (upd G a (.lst ws)) F' H' σ ρ' := by
  obtain ⟨F', x, R, a, rfl, ⟨g, f, ws, h, d⟩, n⟩ := P
  refine ⟨F', a, ws, rfl, x.le, g, f, x.new, h, d, R.reG fun b y hb => ?_⟩
  by_cases z : b = a
  · subst z
    rw [upd_same] at hb
    cases hb
    rw [full_not fun ⟨i, ys, h1, h2⟩ => n i ys h1 h2]
    exact h
  · rw [upd_ne z] at hb
    exact R.leFull _ _ hb
end
end Ev
set_option Elab.async false
set_option linter.all false
set_option maxRecDepth 100000
set_option maxHeartbeats 0
/-! printed by gen.py: the defs of the row that the evaluator reads, by their places in the row -/
namespace LW
open PySem PySem.Spec PyProof.Rows L2 RT RZ Ev
def top (i : Nat) : Stmt := PySem.Challenge.pw_seriesmill_k01_whole_fractions_and_polyn.main.body.getD i (.Pass ⟨0, 0, 0, 0⟩)
abbrev c_HUNDRED : PyData := .int 100
abbrev c_NONE : PyData := .tuple [.int 0, .int 1]
abbrev n_is_integer : List Str := ["thing"]
abbrev p_is_integer : List Str := ["thing"]
theorem sc_is_integer : FnScope n_is_integer p_is_integer (defScope (top 1)) := ⟨rfl, rfl, rfl, by decide +kernel, rfl, by decide +kernel, by decide +kernel⟩
def i_is_integer : ISs := .cons (.ret (.bt (.and (.bv (.isiv 0 ["int"])) (.not (.bv (.isiv 0 ["bool"])))))) (.nil)
abbrev d_is_integer : FD := ⟨1, 1, [], i_is_integer⟩
abbrev n_is_list : List Str := ["thing"]
abbrev p_is_list : List Str := ["thing"]
theorem sc_is_list : FnScope n_is_list p_is_list (defScope (top 2)) := ⟨rfl, rfl, rfl, by decide +kernel, rfl, by decide +kernel, by decide +kernel⟩
def i_is_list : ISs := .cons (.ret (.isiv 0 ["list", "tuple"])) (.nil)
abbrev d_is_list : FD := ⟨1, 1, [], i_is_list⟩
abbrev n_common : List Str := ["one", "other", "here", "there"]
abbrev p_common : List Str := ["one", "other"]
theorem sc_common : FnScope n_common p_common (defScope (top 10)) := ⟨rfl, rfl, rfl, by decide +kernel, rfl, by decide +kernel, by decide +kernel⟩
def i_common : ISs := .cons (.par [2, 3] (.cons (.fnv .abs 0) (.cons (.fnv .abs 1) (.nil)))) (.cons (.whl (.valv 3) (.cons (.par [2, 3] (.cons (.var 3) (.cons (.bin .mod (.var 2) (.var 3)) (.nil)))) (.nil))) (.cons (.retv 2) (.nil)))
abbrev d_common : FD := ⟨2, 4, [], i_common⟩
abbrev n_lowest : List Str := ["top", "under", "shared"]
abbrev p_lowest : List Str := ["top", "under"]
theorem sc_lowest : FnScope n_lowest p_lowest (defScope (top 11)) := ⟨rfl, rfl, rfl, by decide +kernel, rfl, by decide +kernel, by decide +kernel⟩
def i_lowest : ISs := .cons (.set 2 (.call 2 (.cons (.var 0) (.cons (.var 1) (.nil))))) (.cons (.ite (.cmp .lt (.var 1) (.lit (.int 0))) (.cons (.set 2 (.bin .sub (.lit (.int 0)) (.var 2))) (.nil)) (.nil)) (.cons (.ret (.tup (.cons (.bin .fdiv (.var 0) (.var 2)) (.cons (.bin .fdiv (.var 1) (.var 2)) (.nil))))) (.nil)))
abbrev d_lowest : FD := ⟨2, 3, [], i_lowest⟩
abbrev n_is_ratio : List Str := ["thing", "part"]
abbrev p_is_ratio : List Str := ["thing"]
theorem sc_is_ratio : FnScope n_is_ratio p_is_ratio (defScope (top 12)) := ⟨rfl, rfl, rfl, by decide +kernel, rfl, by decide +kernel, by decide +kernel⟩
def i_is_ratio : ISs := .cons (.ite (.or (.not (.val (.call 1 (.cons (.var 0) (.nil))))) (.or (.cmp .ne (.fnv .len 0) (.lit (.int 2))) (.not (.val (.fn .all (.cons (.lc [1] (.seq (.var 0)) (.tt) (.call 0 (.cons (.var 1) (.nil)))) (.nil))))))) (.cons (.ret (.lit (.bool false))) (.nil)) (.nil)) (.cons (.ret (.bt (.and (.cmp .ge (.idxv 0 (.lit (.int 1))) (.lit (.int 1))) (.cmp .eq (.call 2 (.cons (.idxv 0 (.lit (.int 0))) (.cons (.idxv 0 (.lit (.int 1))) (.nil)))) (.lit (.int 1)))))) (.nil))
abbrev d_is_ratio : FD := ⟨1, 2, [], i_is_ratio⟩
abbrev n_plus : List Str := ["one", "other"]
abbrev p_plus : List Str := ["one", "other"]
theorem sc_plus : FnScope n_plus p_plus (defScope (top 13)) := ⟨rfl, rfl, rfl, by decide +kernel, rfl, by decide +kernel, by decide +kernel⟩
def i_plus : ISs := .cons (.ret (.call 3 (.cons (.bin .add (.bin .mul (.idxv 0 (.lit (.int 0))) (.idxv 1 (.lit (.int 1)))) (.bin .mul (.idxv 1 (.lit (.int 0))) (.idxv 0 (.lit (.int 1))))) (.cons (.bin .mul (.idxv 0 (.lit (.int 1))) (.idxv 1 (.lit (.int 1)))) (.nil))))) (.nil)
abbrev d_plus : FD := ⟨2, 2, [], i_plus⟩
abbrev n_minus : List Str := ["one", "other"]
abbrev p_minus : List Str := ["one", "other"]
theorem sc_minus : FnScope n_minus p_minus (defScope (top 14)) := ⟨rfl, rfl, rfl, by decide +kernel, rfl, by decide +kernel, by decide +kernel⟩
def i_minus : ISs := .cons (.ret (.call 3 (.cons (.bin .sub (.bin .mul (.idxv 0 (.lit (.int 0))) (.idxv 1 (.lit (.int 1)))) (.bin .mul (.idxv 1 (.lit (.int 0))) (.idxv 0 (.lit (.int 1))))) (.cons (.bin .mul (.idxv 0 (.lit (.int 1))) (.idxv 1 (.lit (.int 1)))) (.nil))))) (.nil)
abbrev d_minus : FD := ⟨2, 2, [], i_minus⟩
abbrev n_multiplied : List Str := ["one", "other"]
abbrev p_multiplied : List Str := ["one", "other"]
theorem sc_multiplied : FnScope n_multiplied p_multiplied (defScope (top 15)) := ⟨rfl, rfl, rfl, by decide +kernel, rfl, by decide +kernel, by decide +kernel⟩
def i_multiplied : ISs := .cons (.ret (.call 3 (.cons (.bin .mul (.idxv 0 (.lit (.int 0))) (.idxv 1 (.lit (.int 0)))) (.cons (.bin .mul (.idxv 0 (.lit (.int 1))) (.idxv 1 (.lit (.int 1)))) (.nil))))) (.nil)
abbrev d_multiplied : FD := ⟨2, 2, [], i_multiplied⟩
abbrev n_divided : List Str := ["one", "other"]
abbrev p_divided : List Str := ["one", "other"]
theorem sc_divided : FnScope n_divided p_divided (defScope (top 16)) := ⟨rfl, rfl, rfl, by decide +kernel, rfl, by decide +kernel, by decide +kernel⟩
def i_divided : ISs := .cons (.ret (.call 3 (.cons (.bin .mul (.idxv 0 (.lit (.int 0))) (.idxv 1 (.lit (.int 1)))) (.cons (.bin .mul (.idxv 0 (.lit (.int 1))) (.idxv 1 (.lit (.int 0)))) (.nil))))) (.nil)
abbrev d_divided : FD := ⟨2, 2, [], i_divided⟩
abbrev n_check_ratios : List Str := ["several", "ratio"]
abbrev p_check_ratios : List Str := ["several"]
theorem sc_check_ratios : FnScope n_check_ratios p_check_ratios (defScope (top 17)) := ⟨rfl, rfl, rfl, by decide +kernel, rfl, by decide +kernel, by decide +kernel⟩
def i_check_ratios : ISs := .cons (.loop [1] (.seq (.var 0)) (.cons (.ite (.not (.val (.call 4 (.cons (.var 1) (.nil))))) (.cons (.nope) (.nil)) (.nil)) (.nil))) (.nil)
abbrev d_check_ratios : FD := ⟨1, 2, [], i_check_ratios⟩
abbrev n_ratio_sum : List Str := ["one", "other"]
abbrev p_ratio_sum : List Str := ["one", "other"]
theorem sc_ratio_sum : FnScope n_ratio_sum p_ratio_sum (defScope (top 18)) := ⟨rfl, rfl, rfl, by decide +kernel, rfl, by decide +kernel, by decide +kernel⟩
def i_ratio_sum : ISs := .cons (.ex (.call 9 (.cons (.lst (.cons (.var 0) (.cons (.var 1) (.nil)))) (.nil)))) (.cons (.ret (.call 5 (.cons (.var 0) (.cons (.var 1) (.nil))))) (.nil))
abbrev d_ratio_sum : FD := ⟨2, 2, [], i_ratio_sum⟩
abbrev n_ratio_less : List Str := ["one", "other"]
abbrev p_ratio_less : List Str := ["one", "other"]
theorem sc_ratio_less : FnScope n_ratio_less p_ratio_less (defScope (top 19)) := ⟨rfl, rfl, rfl, by decide +kernel, rfl, by decide +kernel, by decide +kernel⟩
def i_ratio_less : ISs := .cons (.ex (.call 9 (.cons (.lst (.cons (.var 0) (.cons (.var 1) (.nil)))) (.nil)))) (.cons (.ret (.call 6 (.cons (.var 0) (.cons (.var 1) (.nil))))) (.nil))
abbrev d_ratio_less : FD := ⟨2, 2, [], i_ratio_less⟩
abbrev n_ratio_times : List Str := ["one", "other"]
abbrev p_ratio_times : List Str := ["one", "other"]
theorem sc_ratio_times : FnScope n_ratio_times p_ratio_times (defScope (top 20)) := ⟨rfl, rfl, rfl, by decide +kernel, rfl, by decide +kernel, by decide +kernel⟩
def i_ratio_times : ISs := .cons (.ex (.call 9 (.cons (.lst (.cons (.var 0) (.cons (.var 1) (.nil)))) (.nil)))) (.cons (.ret (.call 7 (.cons (.var 0) (.cons (.var 1) (.nil))))) (.nil))
abbrev d_ratio_times : FD := ⟨2, 2, [], i_ratio_times⟩
abbrev n_ratio_over : List Str := ["one", "other"]
abbrev p_ratio_over : List Str := ["one", "other"]
theorem sc_ratio_over : FnScope n_ratio_over p_ratio_over (defScope (top 21)) := ⟨rfl, rfl, rfl, by decide +kernel, rfl, by decide +kernel, by decide +kernel⟩
def i_ratio_over : ISs := .cons (.ex (.call 9 (.cons (.lst (.cons (.var 0) (.cons (.var 1) (.nil)))) (.nil)))) (.cons (.ite (.cmp .eq (.idxv 1 (.lit (.int 0))) (.lit (.int 0))) (.cons (.nope) (.nil)) (.nil)) (.cons (.ret (.call 8 (.cons (.var 0) (.cons (.var 1) (.nil))))) (.nil)))
abbrev d_ratio_over : FD := ⟨2, 2, [], i_ratio_over⟩
abbrev n_is_poly : List Str := ["thing", "one"]
abbrev p_is_poly : List Str := ["thing"]
theorem sc_is_poly : FnScope n_is_poly p_is_poly (defScope (top 24)) := ⟨rfl, rfl, rfl, by decide +kernel, rfl, by decide +kernel, by decide +kernel⟩
def i_is_poly : ISs := .cons (.ite (.or (.not (.val (.call 1 (.cons (.var 0) (.nil))))) (.or (.cmp .gt (.fnv .len 0) (.glob c_HUNDRED)) (.not (.val (.fn .all (.cons (.lc [1] (.seq (.var 0)) (.tt) (.call 4 (.cons (.var 1) (.nil)))) (.nil))))))) (.cons (.ret (.lit (.bool false))) (.nil)) (.nil)) (.cons (.ret (.bt (.or (.cmp .eq (.fnv .len 0) (.lit (.int 0))) (.cmp .ne (.idx (.idxv 0 (.neg (.lit (.int 1)))) (.lit (.int 0))) (.lit (.int 0)))))) (.nil))
abbrev d_is_poly : FD := ⟨1, 2, [], i_is_poly⟩
abbrev n_trimmed : List Str := ["rows", "told", "one"]
abbrev p_trimmed : List Str := ["rows"]
theorem sc_trimmed : FnScope n_trimmed p_trimmed (defScope (top 25)) := ⟨rfl, rfl, rfl, by decide +kernel, rfl, by decide +kernel, by decide +kernel⟩
def i_trimmed : ISs := .cons (.set 1 (.lc [2] (.seq (.var 0)) (.tt) (.tup (.cons (.idxv 2 (.lit (.int 0))) (.cons (.idxv 2 (.lit (.int 1))) (.nil)))))) (.cons (.whl (.and (.valv 1) (.cmp .eq (.idx (.idxv 1 (.neg (.lit (.int 1)))) (.lit (.int 0))) (.lit (.int 0)))) (.cons (.ex (.pop 1)) (.nil))) (.cons (.retv 1) (.nil)))
abbrev d_trimmed : FD := ⟨1, 3, [], i_trimmed⟩
abbrev n_entry : List Str := ["rows", "index"]
abbrev p_entry : List Str := ["rows", "index"]
theorem sc_entry : FnScope n_entry p_entry (defScope (top 26)) := ⟨rfl, rfl, rfl, by decide +kernel, rfl, by decide +kernel, by decide +kernel⟩
def i_entry : ISs := .cons (.ret (.ife (.chain .le .lt (.lit (.int 0)) (.var 1) (.fnv .len 0)) (.idxv 0 (.var 1)) (.glob c_NONE))) (.nil)
abbrev d_entry : FD := ⟨2, 2, [], i_entry⟩
abbrev n_poly_plus : List Str := ["one", "other", "index"]
abbrev p_poly_plus : List Str := ["one", "other"]
theorem sc_poly_plus : FnScope n_poly_plus p_poly_plus (defScope (top 27)) := ⟨rfl, rfl, rfl, by decide +kernel, rfl, by decide +kernel, by decide +kernel⟩
def i_poly_plus : ISs := .cons (.ret (.call 15 (.cons (.lc [2] (.rng1 (.fn .max (.cons (.fnv .len 0) (.cons (.fnv .len 1) (.nil))))) (.tt) (.call 5 (.cons (.call 16 (.cons (.var 0) (.cons (.var 2) (.nil)))) (.cons (.call 16 (.cons (.var 1) (.cons (.var 2) (.nil)))) (.nil))))) (.nil)))) (.nil)
abbrev d_poly_plus : FD := ⟨2, 3, [], i_poly_plus⟩
abbrev n_poly_minus : List Str := ["one", "other", "index"]
abbrev p_poly_minus : List Str := ["one", "other"]
theorem sc_poly_minus : FnScope n_poly_minus p_poly_minus (defScope (top 28)) := ⟨rfl, rfl, rfl, by decide +kernel, rfl, by decide +kernel, by decide +kernel⟩
def i_poly_minus : ISs := .cons (.ret (.call 15 (.cons (.lc [2] (.rng1 (.fn .max (.cons (.fnv .len 0) (.cons (.fnv .len 1) (.nil))))) (.tt) (.call 6 (.cons (.call 16 (.cons (.var 0) (.cons (.var 2) (.nil)))) (.cons (.call 16 (.cons (.var 1) (.cons (.var 2) (.nil)))) (.nil))))) (.nil)))) (.nil)
abbrev d_poly_minus : FD := ⟨2, 3, [], i_poly_minus⟩
abbrev n_poly_product : List Str := ["one", "other", "told", "first", "here", "second", "there"]
abbrev p_poly_product : List Str := ["one", "other"]
theorem sc_poly_product : FnScope n_poly_product p_poly_product (defScope (top 29)) := ⟨rfl, rfl, rfl, by decide +kernel, rfl, by decide +kernel, by decide +kernel⟩
def i_poly_product : ISs := .cons (.set 2 (.bin .mul (.lst (.cons (.glob c_NONE) (.nil))) (.fn .max (.cons (.lit (.int 0)) (.cons (.bin .sub (.bin .add (.fnv .len 0) (.fnv .len 1)) (.lit (.int 1))) (.nil)))))) (.cons (.loop [3, 4] (.enum (.var 0)) (.cons (.ite (.cmp .ne (.idxv 4 (.lit (.int 0))) (.lit (.int 0))) (.cons (.loop [5, 6] (.enum (.var 1)) (.cons (.put 2 (.bin .add (.var 3) (.var 5)) (.call 5 (.cons (.idxv 2 (.bin .add (.var 3) (.var 5))) (.cons (.call 7 (.cons (.var 4) (.cons (.var 6) (.nil)))) (.nil))))) (.nil))) (.nil)) (.nil)) (.nil))) (.cons (.ret (.call 15 (.cons (.var 2) (.nil)))) (.nil)))
abbrev d_poly_product : FD := ⟨2, 7, [], i_poly_product⟩
abbrev n_derived : List Str := ["one", "index", "here"]
abbrev p_derived : List Str := ["one"]
theorem sc_derived : FnScope n_derived p_derived (defScope (top 30)) := ⟨rfl, rfl, rfl, by decide +kernel, rfl, by decide +kernel, by decide +kernel⟩
def i_derived : ISs := .cons (.ret (.call 15 (.cons (.slc (.lc [1, 2] (.enum (.var 0)) (.tt) (.call 7 (.cons (.tup (.cons (.var 1) (.cons (.lit (.int 1)) (.nil)))) (.cons (.var 2) (.nil))))) (.som (.lit (.int 1))) (.non)) (.nil)))) (.nil)
abbrev d_derived : FD := ⟨1, 3, [], i_derived⟩
abbrev n_check_polys : List Str := ["several", "poly"]
abbrev p_check_polys : List Str := ["several"]
theorem sc_check_polys : FnScope n_check_polys p_check_polys (defScope (top 31)) := ⟨rfl, rfl, rfl, by decide +kernel, rfl, by decide +kernel, by decide +kernel⟩
def i_check_polys : ISs := .cons (.loop [1] (.seq (.var 0)) (.cons (.ite (.not (.val (.call 14 (.cons (.var 1) (.nil))))) (.cons (.nope) (.nil)) (.nil)) (.nil))) (.nil)
abbrev d_check_polys : FD := ⟨1, 2, [], i_check_polys⟩
abbrev n_poly_sum : List Str := ["one", "other"]
abbrev p_poly_sum : List Str := ["one", "other"]
theorem sc_poly_sum : FnScope n_poly_sum p_poly_sum (defScope (top 32)) := ⟨rfl, rfl, rfl, by decide +kernel, rfl, by decide +kernel, by decide +kernel⟩
def i_poly_sum : ISs := .cons (.ex (.call 21 (.cons (.lst (.cons (.var 0) (.cons (.var 1) (.nil)))) (.nil)))) (.cons (.ret (.call 17 (.cons (.var 0) (.cons (.var 1) (.nil))))) (.nil))
abbrev d_poly_sum : FD := ⟨2, 2, [], i_poly_sum⟩
abbrev n_poly_less : List Str := ["one", "other"]
abbrev p_poly_less : List Str := ["one", "other"]
theorem sc_poly_less : FnScope n_poly_less p_poly_less (defScope (top 33)) := ⟨rfl, rfl, rfl, by decide +kernel, rfl, by decide +kernel, by decide +kernel⟩
def i_poly_less : ISs := .cons (.ex (.call 21 (.cons (.lst (.cons (.var 0) (.cons (.var 1) (.nil)))) (.nil)))) (.cons (.ret (.call 18 (.cons (.var 0) (.cons (.var 1) (.nil))))) (.nil))
abbrev d_poly_less : FD := ⟨2, 2, [], i_poly_less⟩
abbrev n_poly_times : List Str := ["one", "other"]
abbrev p_poly_times : List Str := ["one", "other"]
theorem sc_poly_times : FnScope n_poly_times p_poly_times (defScope (top 34)) := ⟨rfl, rfl, rfl, by decide +kernel, rfl, by decide +kernel, by decide +kernel⟩
def i_poly_times : ISs := .cons (.ex (.call 21 (.cons (.lst (.cons (.var 0) (.cons (.var 1) (.nil)))) (.nil)))) (.cons (.ret (.call 19 (.cons (.var 0) (.cons (.var 1) (.nil))))) (.nil))
abbrev d_poly_times : FD := ⟨2, 2, [], i_poly_times⟩
abbrev n_poly_derived : List Str := ["one"]
abbrev p_poly_derived : List Str := ["one"]
theorem sc_poly_derived : FnScope n_poly_derived p_poly_derived (defScope (top 35)) := ⟨rfl, rfl, rfl, by decide +kernel, rfl, by decide +kernel, by decide +kernel⟩
def i_poly_derived : ISs := .cons (.ex (.call 21 (.cons (.lst (.cons (.var 0) (.nil))) (.nil)))) (.cons (.ret (.call 20 (.cons (.var 0) (.nil)))) (.nil))
abbrev d_poly_derived : FD := ⟨1, 1, [], i_poly_derived⟩
abbrev n_poly_at : List Str := ["one", "ratio", "told", "here"]
abbrev p_poly_at : List Str := ["one", "ratio"]
theorem sc_poly_at : FnScope n_poly_at p_poly_at (defScope (top 36)) := ⟨rfl, rfl, rfl, by decide +kernel, rfl, by decide +kernel, by decide +kernel⟩
def i_poly_at : ISs := .cons (.ex (.call 21 (.cons (.lst (.cons (.var 0) (.nil))) (.nil)))) (.cons (.ex (.call 9 (.cons (.lst (.cons (.var 1) (.nil))) (.nil)))) (.cons (.set 2 (.glob c_NONE)) (.cons (.loop [3] (.rev (.fnv .list 0)) (.cons (.set 2 (.call 5 (.cons (.call 7 (.cons (.var 2) (.cons (.var 1) (.nil)))) (.cons (.var 3) (.nil))))) (.nil))) (.cons (.retv 2) (.nil)))))
abbrev d_poly_at : FD := ⟨2, 4, [], i_poly_at⟩
abbrev n__law_draw : List Str := ["spring", "many", "digit", "mixed"]
abbrev p__law_draw : List Str := ["spring", "many"]
theorem sc__law_draw : FnScope n__law_draw p__law_draw (defScope (top 39)) := ⟨rfl, rfl, rfl, by decide +kernel, rfl, by decide +kernel, by decide +kernel⟩
def i__law_draw : ISs := .cons (.ite (.cmp .gt (.idxv 0 (.lit (.int 0))) (.lit (.int 0))) (.cons (.set 2 (.bin .mod (.fn .int (.cons (.idxv 0 (.lit (.int 0))) (.nil))) (.var 1))) (.cons (.put 0 (.lit (.int 0)) (.bin .fdiv (.idxv 0 (.lit (.int 0))) (.var 1))) (.cons (.retv 2) (.nil)))) (.nil)) (.cons (.put 0 (.lit (.int 2)) (.bin .add (.idxv 0 (.lit (.int 2))) (.lit (.int 1)))) (.cons (.set 3 (.bin .mod (.bin .pow (.fn .int (.cons (.bin .add (.bin .add (.idxv 0 (.lit (.int 1))) (.bin .mul (.lit (.int 6364137)) (.idxv 0 (.lit (.int 2))))) (.lit (.int 1442695))) (.nil))) (.lit (.int 3))) (.lit (.int 2147483647)))) (.cons (.ret (.bin .mod (.bin .fdiv (.bin .mod (.bin .pow (.fn .int (.cons (.bin .add (.bin .mul (.var 3) (.lit (.int 48271))) (.bin .mul (.lit (.int 11)) (.idxv 0 (.lit (.int 2))))) (.nil))) (.lit (.int 3))) (.lit (.int 2147483629))) (.lit (.int 8))) (.var 1))) (.nil))))
abbrev d__law_draw : FD := ⟨2, 4, [0], i__law_draw⟩
abbrev n__law_pick : List Str := ["spring", "some"]
abbrev p__law_pick : List Str := ["spring", "some"]
theorem sc__law_pick : FnScope n__law_pick p__law_pick (defScope (top 40)) := ⟨rfl, rfl, rfl, by decide +kernel, rfl, by decide +kernel, by decide +kernel⟩
def i__law_pick : ISs := .cons (.ret (.idxv 1 (.call 27 (.ref 0 (.cons (.fnv .len 1) (.nil)))))) (.nil)
abbrev d__law_pick : FD := ⟨2, 2, [0], i__law_pick⟩
abbrev n__law_mixed : List Str := ["spring", "some", "left", "k"]
abbrev p__law_mixed : List Str := ["spring", "some"]
theorem sc__law_mixed : FnScope n__law_mixed p__law_mixed (defScope (top 41)) := ⟨rfl, rfl, rfl, by decide +kernel, rfl, by decide +kernel, by decide +kernel⟩
def i__law_mixed : ISs := .cons (.set 2 (.fnv .list 1)) (.cons (.ret (.lc [3] (.rng1 (.fnv .len 2)) (.tt) (.popa 2 (.call 27 (.ref 0 (.cons (.fnv .len 2) (.nil))))))) (.nil))
abbrev d__law_mixed : FD := ⟨2, 4, [0], i__law_mixed⟩
abbrev n__law_same : List Str := ["found", "due", "one", "other", "is_alike"]
abbrev p__law_same : List Str := ["found", "due"]
theorem sc__law_same : FnScope n__law_same p__law_same (defScope (top 43)) := ⟨rfl, rfl, rfl, by decide +kernel, rfl, by decide +kernel, by decide +kernel⟩
def i__law_same : ISs := .cons (.ite (.val (.isiv 1 ["dict"])) (.cons (.nope) (.nil)) (.nil)) (.cons (.ite (.val (.isiv 1 ["list", "tuple"])) (.cons (.ite (.or (.cmp .ne (.isiv 0 ["list"]) (.isiv 1 ["list"])) (.cmp .ne (.isiv 0 ["tuple"]) (.isiv 1 ["tuple"]))) (.cons (.ret (.lit (.bool false))) (.nil)) (.nil)) (.cons (.ret (.bt (.and (.cmp .eq (.fnv .len 0) (.fnv .len 1)) (.bv (.fn .all (.cons (.lc [2, 3] (.zip (.var 0) (.var 1)) (.tt) (.call 30 (.cons (.var 2) (.cons (.var 3) (.nil))))) (.nil))))))) (.nil))) (.nil)) (.cons (.set 4 (.bt (.and (.cmp .eq (.isiv 0 ["bool"]) (.isiv 1 ["bool"])) (.cmp .eq (.isiv 0 ["int"]) (.isiv 1 ["int"]))))) (.cons (.ite (.or (.val (.isiv 0 ["dict", "list", "tuple"])) (.or (.not (.valv 4)) (.cmp .ne (.isiv 0 ["str"]) (.isiv 1 ["str"])))) (.cons (.ret (.lit (.bool false))) (.nil)) (.nil)) (.cons (.ret (.ife (.cmp .isN (.var 1) (.lit .none)) (.bt (.cmp .isN (.var 0) (.lit .none))) (.bt (.cmp .eq (.var 0) (.var 1))))) (.nil)))))
abbrev d__law_same : FD := ⟨2, 5, [], i__law_same⟩
abbrev n__law_loose : List Str := ["spring", "thing", "key", "found", "part"]
abbrev p__law_loose : List Str := ["spring", "thing"]
theorem sc__law_loose : FnScope n__law_loose p__law_loose (defScope (top 44)) := ⟨rfl, rfl, rfl, by decide +kernel, rfl, by decide +kernel, by decide +kernel⟩
def i__law_loose : ISs := .cons (.ite (.val (.isiv 1 ["dict"])) (.cons (.nope) (.nil)) (.nil)) (.cons (.ite (.not (.val (.isiv 1 ["list", "tuple"]))) (.cons (.retv 1) (.nil)) (.nil)) (.cons (.set 3 (.lc [4] (.seq (.var 1)) (.tt) (.call 31 (.ref 0 (.cons (.var 4) (.nil)))))) (.cons (.ret (.ife (.cmp .gt (.call 27 (.ref 0 (.cons (.lit (.int 2)) (.nil)))) (.lit (.int 0))) (.var 3) (.fnv .tuple 3))) (.nil))))
abbrev d__law_loose : FD := ⟨2, 5, [0], i__law_loose⟩
abbrev n__law_b_copy : List Str := ["thing", "key", "one"]
abbrev p__law_b_copy : List Str := ["thing"]
theorem sc__law_b_copy : FnScope n__law_b_copy p__law_b_copy (defScope (top 45)) := ⟨rfl, rfl, rfl, by decide +kernel, rfl, by decide +kernel, by decide +kernel⟩
def i__law_b_copy : ISs := .cons (.ite (.val (.isiv 0 ["dict"])) (.cons (.prim (retD0 0)) (.nil)) (.nil)) (.cons (.ite (.val (.isiv 0 ["list"])) (.cons (.ret (.lc [2] (.seq (.var 0)) (.tt) (.call 32 (.cons (.var 2) (.nil))))) (.nil)) (.nil)) (.cons (.ret (.ife (.val (.isiv 0 ["tuple"])) (.fn .tuple (.cons (.lc [2] (.seq (.var 0)) (.tt) (.call 32 (.cons (.var 2) (.nil)))) (.nil))) (.var 0))) (.nil)))
abbrev d__law_b_copy : FD := ⟨1, 3, [], i__law_b_copy⟩
abbrev n__law_r_low : List Str := ["top", "under", "here", "there"]
abbrev p__law_r_low : List Str := ["top", "under"]
theorem sc__law_r_low : FnScope n__law_r_low p__law_r_low (defScope (top 47)) := ⟨rfl, rfl, rfl, by decide +kernel, rfl, by decide +kernel, by decide +kernel⟩
def i__law_r_low : ISs := .cons (.par [2, 3] (.cons (.fnv .abs 0) (.cons (.fnv .abs 1) (.nil)))) (.cons (.whl (.cmp .ne (.var 3) (.lit (.int 0))) (.cons (.par [2, 3] (.cons (.var 3) (.cons (.bin .mod (.var 2) (.var 3)) (.nil)))) (.nil))) (.cons (.set 2 (.ife (.cmp .lt (.var 1) (.lit (.int 0))) (.neg (.var 2)) (.var 2))) (.cons (.ret (.tup (.cons (.bin .fdiv (.var 0) (.var 2)) (.cons (.bin .fdiv (.var 1) (.var 2)) (.nil))))) (.nil))))
abbrev d__law_r_low : FD := ⟨2, 4, [], i__law_r_low⟩
abbrev n__law_r_sum : List Str := ["one", "other"]
abbrev p__law_r_sum : List Str := ["one", "other"]
theorem sc__law_r_sum : FnScope n__law_r_sum p__law_r_sum (defScope (top 48)) := ⟨rfl, rfl, rfl, by decide +kernel, rfl, by decide +kernel, by decide +kernel⟩
def i__law_r_sum : ISs := .cons (.ret (.call 33 (.cons (.bin .add (.bin .mul (.idxv 0 (.lit (.int 0))) (.idxv 1 (.lit (.int 1)))) (.bin .mul (.idxv 1 (.lit (.int 0))) (.idxv 0 (.lit (.int 1))))) (.cons (.bin .mul (.idxv 0 (.lit (.int 1))) (.idxv 1 (.lit (.int 1)))) (.nil))))) (.nil)
abbrev d__law_r_sum : FD := ⟨2, 2, [], i__law_r_sum⟩
abbrev n__law_r_times : List Str := ["one", "other"]
abbrev p__law_r_times : List Str := ["one", "other"]
theorem sc__law_r_times : FnScope n__law_r_times p__law_r_times (defScope (top 49)) := ⟨rfl, rfl, rfl, by decide +kernel, rfl, by decide +kernel, by decide +kernel⟩
def i__law_r_times : ISs := .cons (.ret (.call 33 (.cons (.bin .mul (.idxv 0 (.lit (.int 0))) (.idxv 1 (.lit (.int 0)))) (.cons (.bin .mul (.idxv 0 (.lit (.int 1))) (.idxv 1 (.lit (.int 1)))) (.nil))))) (.nil)
abbrev d__law_r_times : FD := ⟨2, 2, [], i__law_r_times⟩
abbrev n__law_r_over : List Str := ["one", "other"]
abbrev p__law_r_over : List Str := ["one", "other"]
theorem sc__law_r_over : FnScope n__law_r_over p__law_r_over (defScope (top 50)) := ⟨rfl, rfl, rfl, by decide +kernel, rfl, by decide +kernel, by decide +kernel⟩
def i__law_r_over : ISs := .cons (.ret (.call 33 (.cons (.bin .mul (.idxv 0 (.lit (.int 0))) (.idxv 1 (.lit (.int 1)))) (.cons (.bin .mul (.idxv 0 (.lit (.int 1))) (.idxv 1 (.lit (.int 0)))) (.nil))))) (.nil)
abbrev d__law_r_over : FD := ⟨2, 2, [], i__law_r_over⟩
abbrev n__law_r_minus : List Str := ["one"]
abbrev p__law_r_minus : List Str := ["one"]
theorem sc__law_r_minus : FnScope n__law_r_minus p__law_r_minus (defScope (top 51)) := ⟨rfl, rfl, rfl, by decide +kernel, rfl, by decide +kernel, by decide +kernel⟩
def i__law_r_minus : ISs := .cons (.ret (.tup (.cons (.neg (.idxv 0 (.lit (.int 0)))) (.cons (.idxv 0 (.lit (.int 1))) (.nil))))) (.nil)
abbrev d__law_r_minus : FD := ⟨1, 1, [], i__law_r_minus⟩
abbrev n__law_r_drawn : List Str := ["spring", "most"]
abbrev p__law_r_drawn : List Str := ["spring", "most"]
theorem sc__law_r_drawn : FnScope n__law_r_drawn p__law_r_drawn (defScope (top 52)) := ⟨rfl, rfl, rfl, by decide +kernel, rfl, by decide +kernel, by decide +kernel⟩
def i__law_r_drawn : ISs := .cons (.ret (.call 33 (.cons (.bin .sub (.call 27 (.ref 0 (.cons (.bin .add (.bin .mul (.lit (.int 2)) (.var 1)) (.lit (.int 1))) (.nil)))) (.var 1)) (.cons (.bin .add (.lit (.int 1)) (.call 27 (.ref 0 (.cons (.call 28 (.ref 0 (.cons (.lst (.cons (.lit (.int 1)) (.cons (.lit (.int 1)) (.cons (.var 1) (.nil))))) (.nil)))) (.nil))))) (.nil))))) (.nil)
abbrev d__law_r_drawn : FD := ⟨2, 2, [0], i__law_r_drawn⟩
abbrev n__law_r_is : List Str := ["thing", "one"]
abbrev p__law_r_is : List Str := ["thing"]
theorem sc__law_r_is : FnScope n__law_r_is p__law_r_is (defScope (top 53)) := ⟨rfl, rfl, rfl, by decide +kernel, rfl, by decide +kernel, by decide +kernel⟩
def i__law_r_is : ISs := .cons (.ite (.or (.not (.val (.isiv 0 ["list", "tuple"]))) (.or (.cmp .ne (.fnv .len 0) (.lit (.int 2))) (.not (.val (.fn .all (.cons (.lc [1] (.seq (.var 0)) (.tt) (.bt (.and (.bv (.isiv 1 ["int"])) (.not (.bv (.isiv 1 ["bool"])))))) (.nil))))))) (.cons (.ret (.lit (.bool false))) (.nil)) (.nil)) (.cons (.ret (.bt (.and (.cmp .ge (.idxv 0 (.lit (.int 1))) (.lit (.int 1))) (.cmp .eq (.call 33 (.cons (.idxv 0 (.lit (.int 0))) (.cons (.idxv 0 (.lit (.int 1))) (.nil)))) (.tup (.cons (.idxv 0 (.lit (.int 0))) (.cons (.idxv 0 (.lit (.int 1))) (.nil)))))))) (.nil))
abbrev d__law_r_is : FD := ⟨1, 2, [], i__law_r_is⟩
abbrev n__law_r_trimmed : List Str := ["row", "found", "one"]
abbrev p__law_r_trimmed : List Str := ["row"]
theorem sc__law_r_trimmed : FnScope n__law_r_trimmed p__law_r_trimmed (defScope (top 54)) := ⟨rfl, rfl, rfl, by decide +kernel, rfl, by decide +kernel, by decide +kernel⟩
def i__law_r_trimmed : ISs := .cons (.set 1 (.lc [2] (.seq (.var 0)) (.tt) (.fnv .tuple 2))) (.cons (.whl (.and (.valv 1) (.cmp .eq (.idx (.idxv 1 (.neg (.lit (.int 1)))) (.lit (.int 0))) (.lit (.int 0)))) (.cons (.ex (.pop 1)) (.nil))) (.cons (.retv 1) (.nil)))
abbrev d__law_r_trimmed : FD := ⟨1, 3, [], i__law_r_trimmed⟩
abbrev n__law_r_entry : List Str := ["row", "at"]
abbrev p__law_r_entry : List Str := ["row", "at"]
theorem sc__law_r_entry : FnScope n__law_r_entry p__law_r_entry (defScope (top 55)) := ⟨rfl, rfl, rfl, by decide +kernel, rfl, by decide +kernel, by decide +kernel⟩
def i__law_r_entry : ISs := .cons (.ret (.ife (.chain .le .lt (.lit (.int 0)) (.var 1) (.fnv .len 0)) (.fn .tuple (.cons (.idxv 0 (.var 1)) (.nil))) (.tup (.cons (.lit (.int 0)) (.cons (.lit (.int 1)) (.nil)))))) (.nil)
abbrev d__law_r_entry : FD := ⟨2, 2, [], i__law_r_entry⟩
abbrev n__law_r_product : List Str := ["one", "other", "many", "found", "at", "whole", "first"]
abbrev p__law_r_product : List Str := ["one", "other", "many"]
theorem sc__law_r_product : FnScope n__law_r_product p__law_r_product (defScope (top 56)) := ⟨rfl, rfl, rfl, by decide +kernel, rfl, by decide +kernel, by decide +kernel⟩
def i__law_r_product : ISs := .cons (.set 3 (.lst (.nil))) (.cons (.loop [4] (.rng1 (.var 2)) (.cons (.set 5 (.tup (.cons (.lit (.int 0)) (.cons (.lit (.int 1)) (.nil))))) (.cons (.loop [6] (.rng2 (.fn .max (.cons (.lit (.int 0)) (.cons (.bin .add (.bin .sub (.var 4) (.fnv .len 1)) (.lit (.int 1))) (.nil)))) (.fn .min (.cons (.bin .add (.var 4) (.lit (.int 1))) (.cons (.fnv .len 0) (.nil))))) (.cons (.set 5 (.call 34 (.cons (.var 5) (.cons (.call 35 (.cons (.idxv 0 (.var 6)) (.cons (.idxv 1 (.bin .sub (.var 4) (.var 6))) (.nil)))) (.nil))))) (.nil))) (.cons (.app 3 (.var 5)) (.nil))))) (.cons (.retv 3) (.nil)))
abbrev d__law_r_product : FD := ⟨3, 7, [], i__law_r_product⟩
abbrev n__law_n_poly : List Str := ["spring", "k"]
abbrev p__law_n_poly : List Str := ["spring"]
theorem sc__law_n_poly : FnScope n__law_n_poly p__law_n_poly (defScope (top 58)) := ⟨rfl, rfl, rfl, by decide +kernel, rfl, by decide +kernel, by decide +kernel⟩
def i__law_n_poly : ISs := .cons (.ret (.call 40 (.cons (.lc [1] (.rng1 (.call 27 (.ref 0 (.cons (.lit (.int 9)) (.nil))))) (.tt) (.call 38 (.ref 0 (.cons (.call 28 (.ref 0 (.cons (.lst (.cons (.lit (.int 1)) (.cons (.lit (.int 3)) (.cons (.lit (.int 9)) (.nil))))) (.nil)))) (.nil))))) (.nil)))) (.nil)
abbrev d__law_n_poly : FD := ⟨1, 2, [0], i__law_n_poly⟩
abbrev n__law_n_is : List Str := ["thing", "one"]
abbrev p__law_n_is : List Str := ["thing"]
theorem sc__law_n_is : FnScope n__law_n_is p__law_n_is (defScope (top 59)) := ⟨rfl, rfl, rfl, by decide +kernel, rfl, by decide +kernel, by decide +kernel⟩
def i__law_n_is : ISs := .cons (.ite (.or (.not (.val (.isiv 0 ["list", "tuple"]))) (.or (.cmp .gt (.fnv .len 0) (.lit (.int 100))) (.not (.val (.fn .all (.cons (.lc [1] (.seq (.var 0)) (.tt) (.call 39 (.cons (.var 1) (.nil)))) (.nil))))))) (.cons (.ret (.lit (.bool false))) (.nil)) (.nil)) (.cons (.ret (.bt (.or (.cmp .eq (.fnv .len 0) (.lit (.int 0))) (.cmp .ne (.idx (.idxv 0 (.neg (.lit (.int 1)))) (.lit (.int 0))) (.lit (.int 0)))))) (.nil))
abbrev d__law_n_is : FD := ⟨1, 2, [], i__law_n_is⟩
abbrev n__law_very : List Str := ["kept", "thing", "found"]
abbrev p__law_very : List Str := ["kept", "thing"]
theorem sc__law_very : FnScope n__law_very p__law_very (defScope (top 42)) := ⟨rfl, rfl, rfl, by decide +kernel, rfl, by decide +kernel, by decide +kernel⟩
def i__law_very : ISs := .cons (.ite (.val (.isiv 1 ["list"])) (.cons (.app 1 (.lit (.str " late "))) (.cons (.set 2 (.bt (.and (.bv (.isiv 0 ["list"])) (.and (.cmp .eq (.fnv .len 0) (.fnv .len 1)) (.cmp .eq (.idxv 0 (.neg (.lit (.int 1)))) (.lit (.str " late "))))))) (.cons (.ex (.pop 1)) (.cons (.retv 2) (.nil))))) (.nil)) (.cons (.ite (.val (.isiv 1 ["dict"])) (.cons (.put 1 (.lit (.str " late ")) (.lit (.int 7))) (.cons (.nope) (.cons (.ex (.popa 1 (.lit (.str " late ")))) (.cons (.retv 2) (.nil))))) (.nil)) (.cons (.ite (.or (.val (.isiv 1 ["tuple", "str", "bool", "int"])) (.cmp .isN (.var 1) (.lit .none))) (.cons (.ret (.call 30 (.cons (.var 0) (.cons (.var 1) (.nil))))) (.nil)) (.nil)) (.cons (.ret (.bt (.cmp .eq (.var 0) (.var 1)))) (.nil))))
abbrev d__law_very : FD := ⟨2, 3, [], i__law_very⟩
def Φ : Nat → Option FX
  | 0 => some (.code d_is_integer)
  | 1 => some (.code d_is_list)
  | 2 => some (.code d_common)
  | 3 => some (.code d_lowest)
  | 4 => some (.code d_is_ratio)
  | 5 => some (.code d_plus)
  | 6 => some (.code d_minus)
  | 7 => some (.code d_multiplied)
  | 8 => some (.code d_divided)
  | 9 => some (.code d_check_ratios)
  | 10 => some (.code d_ratio_sum)
  | 11 => some (.code d_ratio_less)
  | 12 => some (.code d_ratio_times)
  | 13 => some (.code d_ratio_over)
  | 14 => some (.code d_is_poly)
  | 15 => some (.code d_trimmed)
  | 16 => some (.code d_entry)
  | 17 => some (.code d_poly_plus)
  | 18 => some (.code d_poly_minus)
  | 19 => some (.code d_poly_product)
  | 20 => some (.code d_derived)
  | 21 => some (.code d_check_polys)
  | 22 => some (.code d_poly_sum)
  | 23 => some (.code d_poly_less)
  | 24 => some (.code d_poly_times)
  | 25 => some (.code d_poly_derived)
  | 26 => some (.code d_poly_at)
  | 27 => some (.code d__law_draw)
  | 28 => some (.code d__law_pick)
  | 29 => some (.code d__law_mixed)
  | 30 => some (.code d__law_same)
  | 31 => some (.code d__law_loose)
  | 32 => some (.code d__law_b_copy)
  | 33 => some (.code d__law_r_low)
  | 34 => some (.code d__law_r_sum)
  | 35 => some (.code d__law_r_times)
  | 36 => some (.code d__law_r_over)
  | 37 => some (.code d__law_r_minus)
  | 38 => some (.code d__law_r_drawn)
  | 39 => some (.code d__law_r_is)
  | 40 => some (.code d__law_r_trimmed)
  | 41 => some (.code d__law_r_entry)
  | 42 => some (.code d__law_r_product)
  | 43 => some (.code d__law_n_poly)
  | 44 => some (.code d__law_n_is)
  | 45 => some (.code d__law_very)
  | _ => none
theorem h_is_integer : Φ 0 = some (.code d_is_integer) := rfl
theorem h_is_list : Φ 1 = some (.code d_is_list) := rfl
theorem h_common : Φ 2 = some (.code d_common) := rfl
theorem h_lowest : Φ 3 = some (.code d_lowest) := rfl
theorem h_is_ratio : Φ 4 = some (.code d_is_ratio) := rfl
theorem h_plus : Φ 5 = some (.code d_plus) := rfl
theorem h_minus : Φ 6 = some (.code d_minus) := rfl
theorem h_multiplied : Φ 7 = some (.code d_multiplied) := rfl
theorem h_divided : Φ 8 = some (.code d_divided) := rfl
theorem h_check_ratios : Φ 9 = some (.code d_check_ratios) := rfl
theorem h_ratio_sum : Φ 10 = some (.code d_ratio_sum) := rfl
theorem h_ratio_less : Φ 11 = some (.code d_ratio_less) := rfl
theorem h_ratio_times : Φ 12 = some (.code d_ratio_times) := rfl
theorem h_ratio_over : Φ 13 = some (.code d_ratio_over) := rfl
theorem h_is_poly : Φ 14 = some (.code d_is_poly) := rfl
theorem h_trimmed : Φ 15 = some (.code d_trimmed) := rfl
theorem h_entry : Φ 16 = some (.code d_entry) := rfl
theorem h_poly_plus : Φ 17 = some (.code d_poly_plus) := rfl
theorem h_poly_minus : Φ 18 = some (.code d_poly_minus) := rfl
theorem h_poly_product : Φ 19 = some (.code d_poly_product) := rfl
theorem h_derived : Φ 20 = some (.code d_derived) := rfl
theorem h_check_polys : Φ 21 = some (.code d_check_polys) := rfl
theorem h_poly_sum : Φ 22 = some (.code d_poly_sum) := rfl
theorem h_poly_less : Φ 23 = some (.code d_poly_less) := rfl
theorem h_poly_times : Φ 24 = some (.code d_poly_times) := rfl
theorem h_poly_derived : Φ 25 = some (.code d_poly_derived) := rfl
theorem h_poly_at : Φ 26 = some (.code d_poly_at) := rfl
theorem h__law_draw : Φ 27 = some (.code d__law_draw) := rfl
theorem h__law_pick : Φ 28 = some (.code d__law_pick) := rfl
theorem h__law_mixed : Φ 29 = some (.code d__law_mixed) := rfl
theorem h__law_same : Φ 30 = some (.code d__law_same) := rfl
theorem h__law_loose : Φ 31 = some (.code d__law_loose) := rfl
theorem h__law_b_copy : Φ 32 = some (.code d__law_b_copy) := rfl
theorem h__law_r_low : Φ 33 = some (.code d__law_r_low) := rfl
theorem h__law_r_sum : Φ 34 = some (.code d__law_r_sum) := rfl
theorem h__law_r_times : Φ 35 = some (.code d__law_r_times) := rfl
theorem h__law_r_over : Φ 36 = some (.code d__law_r_over) := rfl
theorem h__law_r_minus : Φ 37 = some (.code d__law_r_minus) := rfl
theorem h__law_r_drawn : Φ 38 = some (.code d__law_r_drawn) := rfl
theorem h__law_r_is : Φ 39 = some (.code d__law_r_is) := rfl
theorem h__law_r_trimmed : Φ 40 = some (.code d__law_r_trimmed) := rfl
theorem h__law_r_entry : Φ 41 = some (.code d__law_r_entry) := rfl
theorem h__law_r_product : Φ 42 = some (.code d__law_r_product) := rfl
theorem h__law_n_poly : Φ 43 = some (.code d__law_n_poly) := rfl
theorem h__law_n_is : Φ 44 = some (.code d__law_n_is) := rfl
theorem h__law_very : Φ 45 = some (.code d__law_very) := rfl
/-- what the head tells of the text -/
structure Txt (K : Frag) (mg : Str → Option Value) (a : Nat → Addr) (fd : Nat → FuncData) : Prop where
  d_is_integer : FunD K "is_integer" "is_integer" (defArgs (top 1)) (defBody (top 1)) (defScope (top 1)) [] [] (a 0) (fd 0)
  m_is_integer : mg "is_integer" = some (.ref (a 0))
  d_is_list : FunD K "is_list" "is_list" (defArgs (top 2)) (defBody (top 2)) (defScope (top 2)) [] [] (a 1) (fd 1)
  m_is_list : mg "is_list" = some (.ref (a 1))
  d_common : FunD K "common" "common" (defArgs (top 10)) (defBody (top 10)) (defScope (top 10)) [] [] (a 2) (fd 2)
  m_common : mg "common" = some (.ref (a 2))
  d_lowest : FunD K "lowest" "lowest" (defArgs (top 11)) (defBody (top 11)) (defScope (top 11)) [] [] (a 3) (fd 3)
  m_lowest : mg "lowest" = some (.ref (a 3))
  d_is_ratio : FunD K "is_ratio" "is_ratio" (defArgs (top 12)) (defBody (top 12)) (defScope (top 12)) [] [] (a 4) (fd 4)
  m_is_ratio : mg "is_ratio" = some (.ref (a 4))
  d_plus : FunD K "plus" "plus" (defArgs (top 13)) (defBody (top 13)) (defScope (top 13)) [] [] (a 5) (fd 5)
  m_plus : mg "plus" = some (.ref (a 5))
  d_minus : FunD K "minus" "minus" (defArgs (top 14)) (defBody (top 14)) (defScope (top 14)) [] [] (a 6) (fd 6)
  m_minus : mg "minus" = some (.ref (a 6))
  d_multiplied : FunD K "multiplied" "multiplied" (defArgs (top 15)) (defBody (top 15)) (defScope (top 15)) [] [] (a 7) (fd 7)
  m_multiplied : mg "multiplied" = some (.ref (a 7))
  d_divided : FunD K "divided" "divided" (defArgs (top 16)) (defBody (top 16)) (defScope (top 16)) [] [] (a 8) (fd 8)
  m_divided : mg "divided" = some (.ref (a 8))
  d_check_ratios : FunD K "check_ratios" "check_ratios" (defArgs (top 17)) (defBody (top 17)) (defScope (top 17)) [] [] (a 9) (fd 9)
  m_check_ratios : mg "check_ratios" = some (.ref (a 9))
  d_ratio_sum : FunD K "ratio_sum" "ratio_sum" (defArgs (top 18)) (defBody (top 18)) (defScope (top 18)) [] [] (a 10) (fd 10)
  m_ratio_sum : mg "ratio_sum" = some (.ref (a 10))
  d_ratio_less : FunD K "ratio_less" "ratio_less" (defArgs (top 19)) (defBody (top 19)) (defScope (top 19)) [] [] (a 11) (fd 11)
  m_ratio_less : mg "ratio_less" = some (.ref (a 11))
  d_ratio_times : FunD K "ratio_times" "ratio_times" (defArgs (top 20)) (defBody (top 20)) (defScope (top 20)) [] [] (a 12) (fd 12)
  m_ratio_times : mg "ratio_times" = some (.ref (a 12))
  d_ratio_over : FunD K "ratio_over" "ratio_over" (defArgs (top 21)) (defBody (top 21)) (defScope (top 21)) [] [] (a 13) (fd 13)
  m_ratio_over : mg "ratio_over" = some (.ref (a 13))
  d_is_poly : FunD K "is_poly" "is_poly" (defArgs (top 24)) (defBody (top 24)) (defScope (top 24)) [] [] (a 14) (fd 14)
  m_is_poly : mg "is_poly" = some (.ref (a 14))
  d_trimmed : FunD K "trimmed" "trimmed" (defArgs (top 25)) (defBody (top 25)) (defScope (top 25)) [] [] (a 15) (fd 15)
  m_trimmed : mg "trimmed" = some (.ref (a 15))
  d_entry : FunD K "entry" "entry" (defArgs (top 26)) (defBody (top 26)) (defScope (top 26)) [] [] (a 16) (fd 16)
  m_entry : mg "entry" = some (.ref (a 16))
  d_poly_plus : FunD K "poly_plus" "poly_plus" (defArgs (top 27)) (defBody (top 27)) (defScope (top 27)) [] [] (a 17) (fd 17)
  m_poly_plus : mg "poly_plus" = some (.ref (a 17))
  d_poly_minus : FunD K "poly_minus" "poly_minus" (defArgs (top 28)) (defBody (top 28)) (defScope (top 28)) [] [] (a 18) (fd 18)
  m_poly_minus : mg "poly_minus" = some (.ref (a 18))
  d_poly_product : FunD K "poly_product" "poly_product" (defArgs (top 29)) (defBody (top 29)) (defScope (top 29)) [] [] (a 19) (fd 19)
  m_poly_product : mg "poly_product" = some (.ref (a 19))
  d_derived : FunD K "derived" "derived" (defArgs (top 30)) (defBody (top 30)) (defScope (top 30)) [] [] (a 20) (fd 20)
  m_derived : mg "derived" = some (.ref (a 20))
  d_check_polys : FunD K "check_polys" "check_polys" (defArgs (top 31)) (defBody (top 31)) (defScope (top 31)) [] [] (a 21) (fd 21)
  m_check_polys : mg "check_polys" = some (.ref (a 21))
  d_poly_sum : FunD K "poly_sum" "poly_sum" (defArgs (top 32)) (defBody (top 32)) (defScope (top 32)) [] [] (a 22) (fd 22)
  m_poly_sum : mg "poly_sum" = some (.ref (a 22))
  d_poly_less : FunD K "poly_less" "poly_less" (defArgs (top 33)) (defBody (top 33)) (defScope (top 33)) [] [] (a 23) (fd 23)
  m_poly_less : mg "poly_less" = some (.ref (a 23))
  d_poly_times : FunD K "poly_times" "poly_times" (defArgs (top 34)) (defBody (top 34)) (defScope (top 34)) [] [] (a 24) (fd 24)
  m_poly_times : mg "poly_times" = some (.ref (a 24))
  d_poly_derived : FunD K "poly_derived" "poly_derived" (defArgs (top 35)) (defBody (top 35)) (defScope (top 35)) [] [] (a 25) (fd 25)
  m_poly_derived : mg "poly_derived" = some (.ref (a 25))
  d_poly_at : FunD K "poly_at" "poly_at" (defArgs (top 36)) (defBody (top 36)) (defScope (top 36)) [] [] (a 26) (fd 26)
  m_poly_at : mg "poly_at" = some (.ref (a 26))
  d__law_draw : FunD K "_law_draw" "_law_draw" (defArgs (top 39)) (defBody (top 39)) (defScope (top 39)) [] [] (a 27) (fd 27)
  m__law_draw : mg "_law_draw" = some (.ref (a 27))
  d__law_pick : FunD K "_law_pick" "_law_pick" (defArgs (top 40)) (defBody (top 40)) (defScope (top 40)) [] [] (a 28) (fd 28)
  m__law_pick : mg "_law_pick" = some (.ref (a 28))
  d__law_mixed : FunD K "_law_mixed" "_law_mixed" (defArgs (top 41)) (defBody (top 41)) (defScope (top 41)) [] [] (a 29) (fd 29)
  m__law_mixed : mg "_law_mixed" = some (.ref (a 29))
  d__law_same : FunD K "_law_same" "_law_same" (defArgs (top 43)) (defBody (top 43)) (defScope (top 43)) [] [] (a 30) (fd 30)
  m__law_same : mg "_law_same" = some (.ref (a 30))
  d__law_loose : FunD K "_law_loose" "_law_loose" (defArgs (top 44)) (defBody (top 44)) (defScope (top 44)) [] [] (a 31) (fd 31)
  m__law_loose : mg "_law_loose" = some (.ref (a 31))
  d__law_b_copy : FunD K "_law_b_copy" "_law_b_copy" (defArgs (top 45)) (defBody (top 45)) (defScope (top 45)) [] [] (a 32) (fd 32)
  m__law_b_copy : mg "_law_b_copy" = some (.ref (a 32))
  d__law_r_low : FunD K "_law_r_low" "_law_r_low" (defArgs (top 47)) (defBody (top 47)) (defScope (top 47)) [] [] (a 33) (fd 33)
  m__law_r_low : mg "_law_r_low" = some (.ref (a 33))
  d__law_r_sum : FunD K "_law_r_sum" "_law_r_sum" (defArgs (top 48)) (defBody (top 48)) (defScope (top 48)) [] [] (a 34) (fd 34)
  m__law_r_sum : mg "_law_r_sum" = some (.ref (a 34))
  d__law_r_times : FunD K "_law_r_times" "_law_r_times" (defArgs (top 49)) (defBody (top 49)) (defScope (top 49)) [] [] (a 35) (fd 35)
  m__law_r_times : mg "_law_r_times" = some (.ref (a 35))
  d__law_r_over : FunD K "_law_r_over" "_law_r_over" (defArgs (top 50)) (defBody (top 50)) (defScope (top 50)) [] [] (a 36) (fd 36)
  m__law_r_over : mg "_law_r_over" = some (.ref (a 36))
  d__law_r_minus : FunD K "_law_r_minus" "_law_r_minus" (defArgs (top 51)) (defBody (top 51)) (defScope (top 51)) [] [] (a 37) (fd 37)
  m__law_r_minus : mg "_law_r_minus" = some (.ref (a 37))
  d__law_r_drawn : FunD K "_law_r_drawn" "_law_r_drawn" (defArgs (top 52)) (defBody (top 52)) (defScope (top 52)) [] [] (a 38) (fd 38)
  m__law_r_drawn : mg "_law_r_drawn" = some (.ref (a 38))
  d__law_r_is : FunD K "_law_r_is" "_law_r_is" (defArgs (top 53)) (defBody (top 53)) (defScope (top 53)) [] [] (a 39) (fd 39)
  m__law_r_is : mg "_law_r_is" = some (.ref (a 39))
  d__law_r_trimmed : FunD K "_law_r_trimmed" "_law_r_trimmed" (defArgs (top 54)) (defBody (top 54)) (defScope (top 54)) [] [] (a 40) (fd 40)
  m__law_r_trimmed : mg "_law_r_trimmed" = some (.ref (a 40))
  d__law_r_entry : FunD K "_law_r_entry" "_law_r_entry" (defArgs (top 55)) (defBody (top 55)) (defScope (top 55)) [] [] (a 41) (fd 41)
  m__law_r_entry : mg "_law_r_entry" = some (.ref (a 41))
  d__law_r_product : FunD K "_law_r_product" "_law_r_product" (defArgs (top 56)) (defBody (top 56)) (defScope (top 56)) [] [] (a 42) (fd 42)
  m__law_r_product : mg "_law_r_product" = some (.ref (a 42))
  d__law_n_poly : FunD K "_law_n_poly" "_law_n_poly" (defArgs (top 58)) (defBody (top 58)) (defScope (top 58)) [] [] (a 43) (fd 43)
  m__law_n_poly : mg "_law_n_poly" = some (.ref (a 43))
  d__law_n_is : FunD K "_law_n_is" "_law_n_is" (defArgs (top 59)) (defBody (top 59)) (defScope (top 59)) [] [] (a 44) (fd 44)
  m__law_n_is : mg "_law_n_is" = some (.ref (a 44))
  d__law_very : FunD K "_law_very" "_law_very" (defArgs (top 42)) (defBody (top 42)) (defScope (top 42)) [] [] (a 45) (fd 45)
  m__law_very : mg "_law_very" = some (.ref (a 45))
  f_abs : mg "abs" = none
  f_all : mg "all" = none
  f_bool : mg "bool" = none
  f_dict : mg "dict" = none
  f_enumerate : mg "enumerate" = none
  f_int : mg "int" = none
  f_isinstance : mg "isinstance" = none
  f_len : mg "len" = none
  f_list : mg "list" = none
  f_max : mg "max" = none
  f_min : mg "min" = none
  f_range : mg "range" = none
  f_reversed : mg "reversed" = none
  f_str : mg "str" = none
  f_tuple : mg "tuple" = none
  f_zip : mg "zip" = none
  k_HUNDRED : ∃ v u, mg "HUNDRED" = some u ∧ RelV v u ∧ Dn K (fun _ => none) v c_HUNDRED
  k_NONE : ∃ v u, mg "NONE" = some u ∧ RelV v u ∧ Dn K (fun _ => none) v c_NONE
section
variable {P : Program} {w : World} {K : Frag} {mg : Str → Option Value} {base : Heap} {a : Nat → Addr} {fd : Nat → FuncData}
theorem Txt.b_is_integer (T : Txt K mg a fd) : Binds K (fd 0) p_is_integer [] := T.d_is_integer.bindsN fun _ _ _ _ _ _ us hl => match us, hl with | [_], _ => rfl
theorem Txt.b_is_list (T : Txt K mg a fd) : Binds K (fd 1) p_is_list [] := T.d_is_list.bindsN fun _ _ _ _ _ _ us hl => match us, hl with | [_], _ => rfl
theorem Txt.b_common (T : Txt K mg a fd) : Binds K (fd 2) p_common [] := T.d_common.bindsN fun _ _ _ _ _ _ us hl => match us, hl with | [_, _], _ => rfl
theorem Txt.b_lowest (T : Txt K mg a fd) : Binds K (fd 3) p_lowest [] := T.d_lowest.bindsN fun _ _ _ _ _ _ us hl => match us, hl with | [_, _], _ => rfl
theorem Txt.b_is_ratio (T : Txt K mg a fd) : Binds K (fd 4) p_is_ratio [] := T.d_is_ratio.bindsN fun _ _ _ _ _ _ us hl => match us, hl with | [_], _ => rfl
theorem Txt.b_plus (T : Txt K mg a fd) : Binds K (fd 5) p_plus [] := T.d_plus.bindsN fun _ _ _ _ _ _ us hl => match us, hl with | [_, _], _ => rfl
theorem Txt.b_minus (T : Txt K mg a fd) : Binds K (fd 6) p_minus [] := T.d_minus.bindsN fun _ _ _ _ _ _ us hl => match us, hl with | [_, _], _ => rfl
theorem Txt.b_multiplied (T : Txt K mg a fd) : Binds K (fd 7) p_multiplied [] := T.d_multiplied.bindsN fun _ _ _ _ _ _ us hl => match us, hl with | [_, _], _ => rfl
theorem Txt.b_divided (T : Txt K mg a fd) : Binds K (fd 8) p_divided [] := T.d_divided.bindsN fun _ _ _ _ _ _ us hl => match us, hl with | [_, _], _ => rfl
theorem Txt.b_check_ratios (T : Txt K mg a fd) : Binds K (fd 9) p_check_ratios [] := T.d_check_ratios.bindsN fun _ _ _ _ _ _ us hl => match us, hl with | [_], _ => rfl
theorem Txt.b_ratio_sum (T : Txt K mg a fd) : Binds K (fd 10) p_ratio_sum [] := T.d_ratio_sum.bindsN fun _ _ _ _ _ _ us hl => match us, hl with | [_, _], _ => rfl
theorem Txt.b_ratio_less (T : Txt K mg a fd) : Binds K (fd 11) p_ratio_less [] := T.d_ratio_less.bindsN fun _ _ _ _ _ _ us hl => match us, hl with | [_, _], _ => rfl
theorem Txt.b_ratio_times (T : Txt K mg a fd) : Binds K (fd 12) p_ratio_times [] := T.d_ratio_times.bindsN fun _ _ _ _ _ _ us hl => match us, hl with | [_, _], _ => rfl
theorem Txt.b_ratio_over (T : Txt K mg a fd) : Binds K (fd 13) p_ratio_over [] := T.d_ratio_over.bindsN fun _ _ _ _ _ _ us hl => match us, hl with | [_, _], _ => rfl
theorem Txt.b_is_poly (T : Txt K mg a fd) : Binds K (fd 14) p_is_poly [] := T.d_is_poly.bindsN fun _ _ _ _ _ _ us hl => match us, hl with | [_], _ => rfl
theorem Txt.b_trimmed (T : Txt K mg a fd) : Binds K (fd 15) p_trimmed [] := T.d_trimmed.bindsN fun _ _ _ _ _ _ us hl => match us, hl with | [_], _ => rfl
theorem Txt.b_entry (T : Txt K mg a fd) : Binds K (fd 16) p_entry [] := T.d_entry.bindsN fun _ _ _ _ _ _ us hl => match us, hl with | [_, _], _ => rfl
theorem Txt.b_poly_plus (T : Txt K mg a fd) : Binds K (fd 17) p_poly_plus [] := T.d_poly_plus.bindsN fun _ _ _ _ _ _ us hl => match us, hl with | [_, _], _ => rfl
theorem Txt.b_poly_minus (T : Txt K mg a fd) : Binds K (fd 18) p_poly_minus [] := T.d_poly_minus.bindsN fun _ _ _ _ _ _ us hl => match us, hl with | [_, _], _ => rfl
theorem Txt.b_poly_product (T : Txt K mg a fd) : Binds K (fd 19) p_poly_product [] := T.d_poly_product.bindsN fun _ _ _ _ _ _ us hl => match us, hl with | [_, _], _ => rfl
theorem Txt.b_derived (T : Txt K mg a fd) : Binds K (fd 20) p_derived [] := T.d_derived.bindsN fun _ _ _ _ _ _ us hl => match us, hl with | [_], _ => rfl
theorem Txt.b_check_polys (T : Txt K mg a fd) : Binds K (fd 21) p_check_polys [] := T.d_check_polys.bindsN fun _ _ _ _ _ _ us hl => match us, hl with | [_], _ => rfl
theorem Txt.b_poly_sum (T : Txt K mg a fd) : Binds K (fd 22) p_poly_sum [] := T.d_poly_sum.bindsN fun _ _ _ _ _ _ us hl => match us, hl with | [_, _], _ => rfl
theorem Txt.b_poly_less (T : Txt K mg a fd) : Binds K (fd 23) p_poly_less [] := T.d_poly_less.bindsN fun _ _ _ _ _ _ us hl => match us, hl with | [_, _], _ => rfl
theorem Txt.b_poly_times (T : Txt K mg a fd) : Binds K (fd 24) p_poly_times [] := T.d_poly_times.bindsN fun _ _ _ _ _ _ us hl => match us, hl with | [_, _], _ => rfl
theorem Txt.b_poly_derived (T : Txt K mg a fd) : Binds K (fd 25) p_poly_derived [] := T.d_poly_derived.bindsN fun _ _ _ _ _ _ us hl => match us, hl with | [_], _ => rfl
theorem Txt.b_poly_at (T : Txt K mg a fd) : Binds K (fd 26) p_poly_at [] := T.d_poly_at.bindsN fun _ _ _ _ _ _ us hl => match us, hl with | [_, _], _ => rfl
theorem Txt.b__law_draw (T : Txt K mg a fd) : Binds K (fd 27) p__law_draw [] := T.d__law_draw.bindsN fun _ _ _ _ _ _ us hl => match us, hl with | [_, _], _ => rfl
theorem Txt.b__law_pick (T : Txt K mg a fd) : Binds K (fd 28) p__law_pick [] := T.d__law_pick.bindsN fun _ _ _ _ _ _ us hl => match us, hl with | [_, _], _ => rfl
theorem Txt.b__law_mixed (T : Txt K mg a fd) : Binds K (fd 29) p__law_mixed [] := T.d__law_mixed.bindsN fun _ _ _ _ _ _ us hl => match us, hl with | [_, _], _ => rfl
theorem Txt.b__law_same (T : Txt K mg a fd) : Binds K (fd 30) p__law_same [] := T.d__law_same.bindsN fun _ _ _ _ _ _ us hl => match us, hl with | [_, _], _ => rfl
theorem Txt.b__law_loose (T : Txt K mg a fd) : Binds K (fd 31) p__law_loose [] := T.d__law_loose.bindsN fun _ _ _ _ _ _ us hl => match us, hl with | [_, _], _ => rfl
theorem Txt.b__law_b_copy (T : Txt K mg a fd) : Binds K (fd 32) p__law_b_copy [] := T.d__law_b_copy.bindsN fun _ _ _ _ _ _ us hl => match us, hl with | [_], _ => rfl
theorem Txt.b__law_r_low (T : Txt K mg a fd) : Binds K (fd 33) p__law_r_low [] := T.d__law_r_low.bindsN fun _ _ _ _ _ _ us hl => match us, hl with | [_, _], _ => rfl
theorem Txt.b__law_r_sum (T : Txt K mg a fd) : Binds K (fd 34) p__law_r_sum [] := T.d__law_r_sum.bindsN fun _ _ _ _ _ _ us hl => match us, hl with | [_, _], _ => rfl
theorem Txt.b__law_r_times (T : Txt K mg a fd) : Binds K (fd 35) p__law_r_times [] := T.d__law_r_times.bindsN fun _ _ _ _ _ _ us hl => match us, hl with | [_, _], _ => rfl
theorem Txt.b__law_r_over (T : Txt K mg a fd) : Binds K (fd 36) p__law_r_over [] := T.d__law_r_over.bindsN fun _ _ _ _ _ _ us hl => match us, hl with | [_, _], _ => rfl
theorem Txt.b__law_r_minus (T : Txt K mg a fd) : Binds K (fd 37) p__law_r_minus [] := T.d__law_r_minus.bindsN fun _ _ _ _ _ _ us hl => match us, hl with | [_], _ => rfl
theorem Txt.b__law_r_drawn (T : Txt K mg a fd) : Binds K (fd 38) p__law_r_drawn [] := T.d__law_r_drawn.bindsN fun _ _ _ _ _ _ us hl => match us, hl with | [_, _], _ => rfl
theorem Txt.b__law_r_is (T : Txt K mg a fd) : Binds K (fd 39) p__law_r_is [] := T.d__law_r_is.bindsN fun _ _ _ _ _ _ us hl => match us, hl with | [_], _ => rfl
theorem Txt.b__law_r_trimmed (T : Txt K mg a fd) : Binds K (fd 40) p__law_r_trimmed [] := T.d__law_r_trimmed.bindsN fun _ _ _ _ _ _ us hl => match us, hl with | [_], _ => rfl
theorem Txt.b__law_r_entry (T : Txt K mg a fd) : Binds K (fd 41) p__law_r_entry [] := T.d__law_r_entry.bindsN fun _ _ _ _ _ _ us hl => match us, hl with | [_, _], _ => rfl
theorem Txt.b__law_r_product (T : Txt K mg a fd) : Binds K (fd 42) p__law_r_product [] := T.d__law_r_product.bindsN fun _ _ _ _ _ _ us hl => match us, hl with | [_, _, _], _ => rfl
theorem Txt.b__law_n_poly (T : Txt K mg a fd) : Binds K (fd 43) p__law_n_poly [] := T.d__law_n_poly.bindsN fun _ _ _ _ _ _ us hl => match us, hl with | [_], _ => rfl
theorem Txt.b__law_n_is (T : Txt K mg a fd) : Binds K (fd 44) p__law_n_is [] := T.d__law_n_is.bindsN fun _ _ _ _ _ _ us hl => match us, hl with | [_], _ => rfl
theorem Txt.b__law_very (T : Txt K mg a fd) : Binds K (fd 45) p__law_very [] := T.d__law_very.bindsN fun _ _ _ _ _ _ us hl => match us, hl with | [_, _], _ => rfl
/-- all promises, n calls deep -/
structure Good (P : Program) (w : World) (K : Frag) (mg : Str → Option Value) (base : Heap) (a : Nat → Addr) (fd : Nat → FuncData) (n : Nat) : Prop where
  g_is_integer : FnOk P w K mg base CX0 n (a 0) (fd 0) p_is_integer (spF K (callN Φ n) 0 1)
  g_is_list : FnOk P w K mg base CX0 n (a 1) (fd 1) p_is_list (spF K (callN Φ n) 1 1)
  g_common : FnOk P w K mg base CX0 n (a 2) (fd 2) p_common (spF K (callN Φ n) 2 2)
  g_lowest : FnOk P w K mg base CX0 n (a 3) (fd 3) p_lowest (spF K (callN Φ n) 3 2)
  g_is_ratio : FnOk P w K mg base CX0 n (a 4) (fd 4) p_is_ratio (spF K (callN Φ n) 4 1)
  g_plus : FnOk P w K mg base CX0 n (a 5) (fd 5) p_plus (spF K (callN Φ n) 5 2)
  g_minus : FnOk P w K mg base CX0 n (a 6) (fd 6) p_minus (spF K (callN Φ n) 6 2)
  g_multiplied : FnOk P w K mg base CX0 n (a 7) (fd 7) p_multiplied (spF K (callN Φ n) 7 2)
  g_divided : FnOk P w K mg base CX0 n (a 8) (fd 8) p_divided (spF K (callN Φ n) 8 2)
  g_check_ratios : FnOk P w K mg base CX0 n (a 9) (fd 9) p_check_ratios (spF K (callN Φ n) 9 1)
  g_ratio_sum : FnOk P w K mg base CX0 n (a 10) (fd 10) p_ratio_sum (spF K (callN Φ n) 10 2)
  g_ratio_less : FnOk P w K mg base CX0 n (a 11) (fd 11) p_ratio_less (spF K (callN Φ n) 11 2)
  g_ratio_times : FnOk P w K mg base CX0 n (a 12) (fd 12) p_ratio_times (spF K (callN Φ n) 12 2)
  g_ratio_over : FnOk P w K mg base CX0 n (a 13) (fd 13) p_ratio_over (spF K (callN Φ n) 13 2)
  g_is_poly : FnOk P w K mg base CX0 n (a 14) (fd 14) p_is_poly (spF K (callN Φ n) 14 1)
  g_trimmed : FnOk P w K mg base CX0 n (a 15) (fd 15) p_trimmed (spF K (callN Φ n) 15 1)
  g_entry : FnOk P w K mg base CX0 n (a 16) (fd 16) p_entry (spF K (callN Φ n) 16 2)
  g_poly_plus : FnOk P w K mg base CX0 n (a 17) (fd 17) p_poly_plus (spF K (callN Φ n) 17 2)
  g_poly_minus : FnOk P w K mg base CX0 n (a 18) (fd 18) p_poly_minus (spF K (callN Φ n) 18 2)
  g_poly_product : FnOk P w K mg base CX0 n (a 19) (fd 19) p_poly_product (spF K (callN Φ n) 19 2)
  g_derived : FnOk P w K mg base CX0 n (a 20) (fd 20) p_derived (spF K (callN Φ n) 20 1)
  g_check_polys : FnOk P w K mg base CX0 n (a 21) (fd 21) p_check_polys (spF K (callN Φ n) 21 1)
  g_poly_sum : FnOk P w K mg base CX0 n (a 22) (fd 22) p_poly_sum (spF K (callN Φ n) 22 2)
  g_poly_less : FnOk P w K mg base CX0 n (a 23) (fd 23) p_poly_less (spF K (callN Φ n) 23 2)
  g_poly_times : FnOk P w K mg base CX0 n (a 24) (fd 24) p_poly_times (spF K (callN Φ n) 24 2)
  g_poly_derived : FnOk P w K mg base CX0 n (a 25) (fd 25) p_poly_derived (spF K (callN Φ n) 25 1)
  g_poly_at : FnOk P w K mg base CX0 n (a 26) (fd 26) p_poly_at (spF K (callN Φ n) 26 2)
  g__law_draw : FnOk P w K mg base CX0 n (a 27) (fd 27) p__law_draw (spF K (callN Φ n) 27 2)
  g__law_pick : FnOk P w K mg base CX0 n (a 28) (fd 28) p__law_pick (spF K (callN Φ n) 28 2)
  g__law_mixed : FnOk P w K mg base CX0 n (a 29) (fd 29) p__law_mixed (spF K (callN Φ n) 29 2)
  g__law_same : FnOk P w K mg base CX0 n (a 30) (fd 30) p__law_same (spF K (callN Φ n) 30 2)
  g__law_loose : FnOk P w K mg base CX0 n (a 31) (fd 31) p__law_loose (spF K (callN Φ n) 31 2)
  g__law_b_copy : FnOk P w K mg base CX0 n (a 32) (fd 32) p__law_b_copy (spF K (callN Φ n) 32 1)
  g__law_r_low : FnOk P w K mg base CX0 n (a 33) (fd 33) p__law_r_low (spF K (callN Φ n) 33 2)
  g__law_r_sum : FnOk P w K mg base CX0 n (a 34) (fd 34) p__law_r_sum (spF K (callN Φ n) 34 2)
  g__law_r_times : FnOk P w K mg base CX0 n (a 35) (fd 35) p__law_r_times (spF K (callN Φ n) 35 2)
  g__law_r_over : FnOk P w K mg base CX0 n (a 36) (fd 36) p__law_r_over (spF K (callN Φ n) 36 2)
  g__law_r_minus : FnOk P w K mg base CX0 n (a 37) (fd 37) p__law_r_minus (spF K (callN Φ n) 37 1)
  g__law_r_drawn : FnOk P w K mg base CX0 n (a 38) (fd 38) p__law_r_drawn (spF K (callN Φ n) 38 2)
  g__law_r_is : FnOk P w K mg base CX0 n (a 39) (fd 39) p__law_r_is (spF K (callN Φ n) 39 1)
  g__law_r_trimmed : FnOk P w K mg base CX0 n (a 40) (fd 40) p__law_r_trimmed (spF K (callN Φ n) 40 1)
  g__law_r_entry : FnOk P w K mg base CX0 n (a 41) (fd 41) p__law_r_entry (spF K (callN Φ n) 41 2)
  g__law_r_product : FnOk P w K mg base CX0 n (a 42) (fd 42) p__law_r_product (spF K (callN Φ n) 42 3)
  g__law_n_poly : FnOk P w K mg base CX0 n (a 43) (fd 43) p__law_n_poly (spF K (callN Φ n) 43 1)
  g__law_n_is : FnOk P w K mg base CX0 n (a 44) (fd 44) p__law_n_is (spF K (callN Φ n) 44 1)
  g__law_very : FnOk P w K mg base CX0 n (a 45) (fd 45) p__law_very (spF K (callN Φ n) 45 2)
theorem st_is_integer {n : Nat} (g : Good P w K mg base a fd n) (T : Txt K mg a fd) : FnOk P w K mg base CX0 (n + 1) (a 0) (fd 0) p_is_integer (spF K (callN Φ (n + 1)) 0 1) := by
  refine fn_step (d := d_is_integer) T.d_is_integer sc_is_integer rfl rfl rfl (fun cdv A outer s H E G Ap hr hio => ?_)
  exact (sb_cons (ss_ret (se_bt (sb_and (sb_bv (se_isiv (i := 0) (pa_ty rfl T.f_int PyProof.Rows.boot_int pa_ty0) T.f_isinstance)) (sb_one (sb_not (sb_bv (se_isiv (i := 0) (pa_ty rfl T.f_bool (by decide +kernel) pa_ty0) T.f_isinstance))))))) sb_nil)
theorem st_is_list {n : Nat} (g : Good P w K mg base a fd n) (T : Txt K mg a fd) : FnOk P w K mg base CX0 (n + 1) (a 1) (fd 1) p_is_list (spF K (callN Φ (n + 1)) 1 1) := by
  refine fn_step (d := d_is_list) T.d_is_list sc_is_list rfl rfl rfl (fun cdv A outer s H E G Ap hr hio => ?_)
  exact (sb_cons (ss_ret (se_isivT (i := 0) (pa_ty rfl T.f_list PyProof.Rows.boot_list (pa_ty rfl T.f_tuple PyProof.Rows.boot_tuple pa_ty0)) T.f_isinstance)) sb_nil)
theorem st_common {n : Nat} (g : Good P w K mg base a fd n) (T : Txt K mg a fd) : FnOk P w K mg base CX0 (n + 1) (a 2) (fd 2) p_common (spF K (callN Φ (n + 1)) 2 2) := by
  refine fn_step (d := d_common) T.d_common sc_common rfl rfl rfl (fun cdv A outer s H E G Ap hr hio => ?_)
  exact (sb_cons (ss_par (i := 2) (j := 3) rfl sc_common.nd (by decide) (nA hio (by decide)) (nA hio (by decide)) (sa_cons (se_fnvB (i := 0) bl_abs rfl T.f_abs PyProof.Rows.boot_abs) (sa_cons (se_fnvB (i := 1) bl_abs rfl T.f_abs PyProof.Rows.boot_abs) sa_nil))) (sb_cons (ss_whl PassesOwn.never (st_valv (i := 3)) (sb_cons (ss_par (i := 2) (j := 3) rfl sc_common.nd (by decide) (nA hio (by decide)) (nA hio (by decide)) (sa_cons (se_var (i := 3)) (sa_cons (se_bin br_mod (se_var (i := 2)) (se_var (i := 3))) sa_nil))) sb_nil)) (sb_cons (ss_retv (i := 2)) sb_nil)))
theorem st_lowest {n : Nat} (g : Good P w K mg base a fd n) (T : Txt K mg a fd) : FnOk P w K mg base CX0 (n + 1) (a 3) (fd 3) p_lowest (spF K (callN Φ (n + 1)) 3 2) := by
  refine fn_step (d := d_lowest) T.d_lowest sc_lowest rfl rfl rfl (fun cdv A outer s H E G Ap hr hio => ?_)
  exact (sb_cons (ss_set (i := 2) sc_lowest.nd (nA hio (by decide)) (se_call g.g_common hr rfl T.m_common T.d_common.kp T.b_common pass0 (sa_cons (se_var (i := 0)) (sa_cons (se_var (i := 1)) sa_nil)))) (sb_cons (ss_if (st_cmp cm_lt (se_var (i := 1)) se_int (nomark _)) (sb_cons (ss_set (i := 2) sc_lowest.nd (nA hio (by decide)) (se_bin br_sub se_int (se_var (i := 2)))) sb_nil) sb_nil) (sb_cons (ss_ret (se_tup (sa_cons (se_bin br_fdiv (se_var (i := 0)) (se_var (i := 2))) (sa_cons (se_bin br_fdiv (se_var (i := 1)) (se_var (i := 2))) sa_nil)))) sb_nil)))
theorem st_is_ratio {n : Nat} (g : Good P w K mg base a fd n) (T : Txt K mg a fd) : FnOk P w K mg base CX0 (n + 1) (a 4) (fd 4) p_is_ratio (spF K (callN Φ (n + 1)) 4 1) := by
  refine fn_step (d := d_is_ratio) T.d_is_ratio sc_is_ratio rfl rfl rfl (fun cdv A outer s H E G Ap hr hio => ?_)
  exact (sb_cons (ss_if (SW.st (sw_or (st_not (st_val (se_call g.g_is_list hr rfl T.m_is_list T.d_is_list.kp T.b_is_list pass0 (sa_cons (se_var (i := 0)) sa_nil)))) (sw_or (st_cmp (cm_ne hr.units) (se_fnvB (i := 0) bl_len rfl T.f_len PySem.boot_len) se_int (nomark _)) (sw_or1 (st_not (st_val (se_fnB (bl_all rfl) rfl T.f_all PyProof.Rows.boot_all (sa_cons (se_lc (own := [("part", 1)]) rfl sc_is_ratio.nd (sg_seq (se_var (i := 0))) (blkOk_by (own := [("part", 1)]) (show blkC n_is_ratio (defScope (top 12)) _ [("part", 1)] = true from by decide +kernel)) (nAs hio (by decide)) (fun _ _ _ _ _ => (sp_name (i := 1) sc_is_ratio.nd (nA hio (by decide)))) (fun _ _ _ _ _ _ => sts_nil) (fun _ _ _ _ _ _ => (se_call g.g_is_integer hr rfl T.m_is_integer T.d_is_integer.kp T.b_is_integer pass0 (sa_cons (se_var (i := 1)) sa_nil)))) sa_nil)))))))) (sb_cons (ss_ret se_bl) sb_nil) sb_nil) (sb_cons (ss_ret (se_bt (sb_and (sb_cmp cm_ge (se_idxv (i := 0) se_int) se_int (nomark _)) (sb_one (sb_cmp (cm_eq hr.units) (se_call g.g_common hr rfl T.m_common T.d_common.kp T.b_common pass0 (sa_cons (se_idxv (i := 0) se_int) (sa_cons (se_idxv (i := 0) se_int) sa_nil))) se_int (nomark _)))))) sb_nil))
theorem st_plus {n : Nat} (g : Good P w K mg base a fd n) (T : Txt K mg a fd) : FnOk P w K mg base CX0 (n + 1) (a 5) (fd 5) p_plus (spF K (callN Φ (n + 1)) 5 2) := by
  refine fn_step (d := d_plus) T.d_plus sc_plus rfl rfl rfl (fun cdv A outer s H E G Ap hr hio => ?_)
  exact (sb_cons (ss_ret (se_call g.g_lowest hr rfl T.m_lowest T.d_lowest.kp T.b_lowest pass0 (sa_cons (se_bin br_add (se_bin br_mul (se_idxv (i := 0) se_int) (se_idxv (i := 1) se_int)) (se_bin br_mul (se_idxv (i := 1) se_int) (se_idxv (i := 0) se_int))) (sa_cons (se_bin br_mul (se_idxv (i := 0) se_int) (se_idxv (i := 1) se_int)) sa_nil)))) sb_nil)
theorem st_minus {n : Nat} (g : Good P w K mg base a fd n) (T : Txt K mg a fd) : FnOk P w K mg base CX0 (n + 1) (a 6) (fd 6) p_minus (spF K (callN Φ (n + 1)) 6 2) := by
  refine fn_step (d := d_minus) T.d_minus sc_minus rfl rfl rfl (fun cdv A outer s H E G Ap hr hio => ?_)
  exact (sb_cons (ss_ret (se_call g.g_lowest hr rfl T.m_lowest T.d_lowest.kp T.b_lowest pass0 (sa_cons (se_bin br_sub (se_bin br_mul (se_idxv (i := 0) se_int) (se_idxv (i := 1) se_int)) (se_bin br_mul (se_idxv (i := 1) se_int) (se_idxv (i := 0) se_int))) (sa_cons (se_bin br_mul (se_idxv (i := 0) se_int) (se_idxv (i := 1) se_int)) sa_nil)))) sb_nil)
theorem st_multiplied {n : Nat} (g : Good P w K mg base a fd n) (T : Txt K mg a fd) : FnOk P w K mg base CX0 (n + 1) (a 7) (fd 7) p_multiplied (spF K (callN Φ (n + 1)) 7 2) := by
  refine fn_step (d := d_multiplied) T.d_multiplied sc_multiplied rfl rfl rfl (fun cdv A outer s H E G Ap hr hio => ?_)
  exact (sb_cons (ss_ret (se_call g.g_lowest hr rfl T.m_lowest T.d_lowest.kp T.b_lowest pass0 (sa_cons (se_bin br_mul (se_idxv (i := 0) se_int) (se_idxv (i := 1) se_int)) (sa_cons (se_bin br_mul (se_idxv (i := 0) se_int) (se_idxv (i := 1) se_int)) sa_nil)))) sb_nil)
theorem st_divided {n : Nat} (g : Good P w K mg base a fd n) (T : Txt K mg a fd) : FnOk P w K mg base CX0 (n + 1) (a 8) (fd 8) p_divided (spF K (callN Φ (n + 1)) 8 2) := by
  refine fn_step (d := d_divided) T.d_divided sc_divided rfl rfl rfl (fun cdv A outer s H E G Ap hr hio => ?_)
  exact (sb_cons (ss_ret (se_call g.g_lowest hr rfl T.m_lowest T.d_lowest.kp T.b_lowest pass0 (sa_cons (se_bin br_mul (se_idxv (i := 0) se_int) (se_idxv (i := 1) se_int)) (sa_cons (se_bin br_mul (se_idxv (i := 0) se_int) (se_idxv (i := 1) se_int)) sa_nil)))) sb_nil)
theorem st_check_ratios {n : Nat} (g : Good P w K mg base a fd n) (T : Txt K mg a fd) : FnOk P w K mg base CX0 (n + 1) (a 9) (fd 9) p_check_ratios (spF K (callN Φ (n + 1)) 9 1) := by
  refine fn_step (d := d_check_ratios) T.d_check_ratios sc_check_ratios rfl rfl rfl (fun cdv A outer s H E G Ap hr hio => ?_)
  exact (sb_cons (ss_for PassesOwn.never rfl (sg_seq (se_var (i := 0))) (sp_name (i := 1) sc_check_ratios.nd (nA hio (by decide))) (sb_cons (ss_if (st_not (st_val (se_call g.g_is_ratio hr rfl T.m_is_ratio T.d_is_ratio.kp T.b_is_ratio pass0 (sa_cons (se_var (i := 1)) sa_nil)))) (sb_cons ss_nope sb_nil) sb_nil) sb_nil)) sb_nil)
theorem st_ratio_sum {n : Nat} (g : Good P w K mg base a fd n) (T : Txt K mg a fd) : FnOk P w K mg base CX0 (n + 1) (a 10) (fd 10) p_ratio_sum (spF K (callN Φ (n + 1)) 10 2) := by
  refine fn_step (d := d_ratio_sum) T.d_ratio_sum sc_ratio_sum rfl rfl rfl (fun cdv A outer s H E G Ap hr hio => ?_)
  exact (sb_cons (ss_ex (se_call g.g_check_ratios hr rfl T.m_check_ratios T.d_check_ratios.kp T.b_check_ratios pass0 (sa_cons (se_lst (sa_cons (se_var (i := 0)) (sa_cons (se_var (i := 1)) sa_nil))) sa_nil))) (sb_cons (ss_ret (se_call g.g_plus hr rfl T.m_plus T.d_plus.kp T.b_plus pass0 (sa_cons (se_var (i := 0)) (sa_cons (se_var (i := 1)) sa_nil)))) sb_nil))
theorem st_ratio_less {n : Nat} (g : Good P w K mg base a fd n) (T : Txt K mg a fd) : FnOk P w K mg base CX0 (n + 1) (a 11) (fd 11) p_ratio_less (spF K (callN Φ (n + 1)) 11 2) := by
  refine fn_step (d := d_ratio_less) T.d_ratio_less sc_ratio_less rfl rfl rfl (fun cdv A outer s H E G Ap hr hio => ?_)
  exact (sb_cons (ss_ex (se_call g.g_check_ratios hr rfl T.m_check_ratios T.d_check_ratios.kp T.b_check_ratios pass0 (sa_cons (se_lst (sa_cons (se_var (i := 0)) (sa_cons (se_var (i := 1)) sa_nil))) sa_nil))) (sb_cons (ss_ret (se_call g.g_minus hr rfl T.m_minus T.d_minus.kp T.b_minus pass0 (sa_cons (se_var (i := 0)) (sa_cons (se_var (i := 1)) sa_nil)))) sb_nil))
theorem st_ratio_times {n : Nat} (g : Good P w K mg base a fd n) (T : Txt K mg a fd) : FnOk P w K mg base CX0 (n + 1) (a 12) (fd 12) p_ratio_times (spF K (callN Φ (n + 1)) 12 2) := by
  refine fn_step (d := d_ratio_times) T.d_ratio_times sc_ratio_times rfl rfl rfl (fun cdv A outer s H E G Ap hr hio => ?_)
  exact (sb_cons (ss_ex (se_call g.g_check_ratios hr rfl T.m_check_ratios T.d_check_ratios.kp T.b_check_ratios pass0 (sa_cons (se_lst (sa_cons (se_var (i := 0)) (sa_cons (se_var (i := 1)) sa_nil))) sa_nil))) (sb_cons (ss_ret (se_call g.g_multiplied hr rfl T.m_multiplied T.d_multiplied.kp T.b_multiplied pass0 (sa_cons (se_var (i := 0)) (sa_cons (se_var (i := 1)) sa_nil)))) sb_nil))
theorem st_ratio_over {n : Nat} (g : Good P w K mg base a fd n) (T : Txt K mg a fd) : FnOk P w K mg base CX0 (n + 1) (a 13) (fd 13) p_ratio_over (spF K (callN Φ (n + 1)) 13 2) := by
  refine fn_step (d := d_ratio_over) T.d_ratio_over sc_ratio_over rfl rfl rfl (fun cdv A outer s H E G Ap hr hio => ?_)
  exact (sb_cons (ss_ex (se_call g.g_check_ratios hr rfl T.m_check_ratios T.d_check_ratios.kp T.b_check_ratios pass0 (sa_cons (se_lst (sa_cons (se_var (i := 0)) (sa_cons (se_var (i := 1)) sa_nil))) sa_nil))) (sb_cons (ss_if (st_cmp (cm_eq hr.units) (se_idxv (i := 1) se_int) se_int (nomark _)) (sb_cons ss_nope sb_nil) sb_nil) (sb_cons (ss_ret (se_call g.g_divided hr rfl T.m_divided T.d_divided.kp T.b_divided pass0 (sa_cons (se_var (i := 0)) (sa_cons (se_var (i := 1)) sa_nil)))) sb_nil)))
theorem st_is_poly {n : Nat} (g : Good P w K mg base a fd n) (T : Txt K mg a fd) : FnOk P w K mg base CX0 (n + 1) (a 14) (fd 14) p_is_poly (spF K (callN Φ (n + 1)) 14 1) := by
  refine fn_step (d := d_is_poly) T.d_is_poly sc_is_poly rfl rfl rfl (fun cdv A outer s H E G Ap hr hio => ?_)
  exact (sb_cons (ss_if (SW.st (sw_or (st_not (st_val (se_call g.g_is_list hr rfl T.m_is_list T.d_is_list.kp T.b_is_list pass0 (sa_cons (se_var (i := 0)) sa_nil)))) (sw_or (st_cmp cm_gt (se_fnvB (i := 0) bl_len rfl T.f_len PySem.boot_len) (se_globX rfl T.k_HUNDRED) (nomark _)) (sw_or1 (st_not (st_val (se_fnB (bl_all rfl) rfl T.f_all PyProof.Rows.boot_all (sa_cons (se_lc (own := [("one", 1)]) rfl sc_is_poly.nd (sg_seq (se_var (i := 0))) (blkOk_by (own := [("one", 1)]) (show blkC n_is_poly (defScope (top 24)) _ [("one", 1)] = true from by decide +kernel)) (nAs hio (by decide)) (fun _ _ _ _ _ => (sp_name (i := 1) sc_is_poly.nd (nA hio (by decide)))) (fun _ _ _ _ _ _ => sts_nil) (fun _ _ _ _ _ _ => (se_call g.g_is_ratio hr rfl T.m_is_ratio T.d_is_ratio.kp T.b_is_ratio pass0 (sa_cons (se_var (i := 1)) sa_nil)))) sa_nil)))))))) (sb_cons (ss_ret se_bl) sb_nil) sb_nil) (sb_cons (ss_ret (se_bt (sb_or (sb_cmp (cm_eq hr.units) (se_fnvB (i := 0) bl_len rfl T.f_len PySem.boot_len) se_int (nomark _)) (sb_one (sb_cmp (cm_ne hr.units) (se_idx (se_idxv (i := 0) (se_neg se_int)) se_int) se_int (nomark _)))))) sb_nil))
theorem st_trimmed {n : Nat} (g : Good P w K mg base a fd n) (T : Txt K mg a fd) : FnOk P w K mg base CX0 (n + 1) (a 15) (fd 15) p_trimmed (spF K (callN Φ (n + 1)) 15 1) := by
  refine fn_step (d := d_trimmed) T.d_trimmed sc_trimmed rfl rfl rfl (fun cdv A outer s H E G Ap hr hio => ?_)
  exact (sb_cons (ss_setLc (i := 1) (own := [("one", 2)]) rfl sc_trimmed.nd (nA hio (by decide)) (sg_seq (se_var (i := 0))) (blkOk_by (own := [("one", 2)]) (show blkC n_trimmed (defScope (top 25)) _ [("one", 2)] = true from by decide +kernel)) (nAs hio (by decide)) (fun _ _ _ _ _ => (sp_name (i := 2) sc_trimmed.nd (nA hio (by decide)))) (fun _ _ _ _ _ _ => sts_nil) (fun _ _ _ _ _ _ => (se_tup (sa_cons (se_idxv (i := 2) se_int) (sa_cons (se_idxv (i := 2) se_int) sa_nil)))) (sw_true rfl rfl rfl (by decide +kernel))) (sb_cons (ss_whl PassesOwn.never (SW.st (sw_and (st_valv (i := 1)) (sw_and1 (st_cmp (cm_eq hr.units) (se_idx (se_idxv (i := 1) (se_neg se_int)) se_int) se_int (nomark _))))) (sb_cons (ss_ex (se_pop (i := 1))) sb_nil)) (sb_cons (ss_retv (i := 1)) sb_nil)))
theorem st_entry {n : Nat} (g : Good P w K mg base a fd n) (T : Txt K mg a fd) : FnOk P w K mg base CX0 (n + 1) (a 16) (fd 16) p_entry (spF K (callN Φ (n + 1)) 16 2) := by
  refine fn_step (d := d_entry) T.d_entry sc_entry rfl rfl rfl (fun cdv A outer s H E G Ap hr hio => ?_)
  exact (sb_cons (ss_ret (se_ife (st_chain op_le op_lt rfl rfl se_int (se_var (i := 1)) (se_fnvB (i := 0) bl_len rfl T.f_len PySem.boot_len)) (se_idxv (i := 0) (se_var (i := 1))) (se_globX rfl T.k_NONE))) sb_nil)
theorem st_poly_plus {n : Nat} (g : Good P w K mg base a fd n) (T : Txt K mg a fd) : FnOk P w K mg base CX0 (n + 1) (a 17) (fd 17) p_poly_plus (spF K (callN Φ (n + 1)) 17 2) := by
  refine fn_step (d := d_poly_plus) T.d_poly_plus sc_poly_plus rfl rfl rfl (fun cdv A outer s H E G Ap hr hio => ?_)
  exact (sb_cons (ss_ret (se_call g.g_trimmed hr rfl T.m_trimmed T.d_trimmed.kp T.b_trimmed pass0 (sa_cons (se_lc (own := [("index", 2)]) rfl sc_poly_plus.nd (sg_rng1 (se_fnB (bl_max rfl) rfl T.f_max PyProof.Rows.boot_max (sa_cons (se_fnvB (i := 0) bl_len rfl T.f_len PySem.boot_len) (sa_cons (se_fnvB (i := 1) bl_len rfl T.f_len PySem.boot_len) sa_nil))) T.f_range) (blkOk_by (own := [("index", 2)]) (show blkC n_poly_plus (defScope (top 27)) _ [("index", 2)] = true from by decide +kernel)) (nAs hio (by decide)) (fun _ _ _ _ _ => (sp_name (i := 2) sc_poly_plus.nd (nA hio (by decide)))) (fun _ _ _ _ _ _ => sts_nil) (fun _ _ _ _ _ _ => (se_call g.g_plus hr rfl T.m_plus T.d_plus.kp T.b_plus pass0 (sa_cons (se_call g.g_entry hr rfl T.m_entry T.d_entry.kp T.b_entry pass0 (sa_cons (se_var (i := 0)) (sa_cons (se_var (i := 2)) sa_nil))) (sa_cons (se_call g.g_entry hr rfl T.m_entry T.d_entry.kp T.b_entry pass0 (sa_cons (se_var (i := 1)) (sa_cons (se_var (i := 2)) sa_nil))) sa_nil))))) sa_nil))) sb_nil)
theorem st_poly_minus {n : Nat} (g : Good P w K mg base a fd n) (T : Txt K mg a fd) : FnOk P w K mg base CX0 (n + 1) (a 18) (fd 18) p_poly_minus (spF K (callN Φ (n + 1)) 18 2) := by
  refine fn_step (d := d_poly_minus) T.d_poly_minus sc_poly_minus rfl rfl rfl (fun cdv A outer s H E G Ap hr hio => ?_)
  exact (sb_cons (ss_ret (se_call g.g_trimmed hr rfl T.m_trimmed T.d_trimmed.kp T.b_trimmed pass0 (sa_cons (se_lc (own := [("index", 2)]) rfl sc_poly_minus.nd (sg_rng1 (se_fnB (bl_max rfl) rfl T.f_max PyProof.Rows.boot_max (sa_cons (se_fnvB (i := 0) bl_len rfl T.f_len PySem.boot_len) (sa_cons (se_fnvB (i := 1) bl_len rfl T.f_len PySem.boot_len) sa_nil))) T.f_range) (blkOk_by (own := [("index", 2)]) (show blkC n_poly_minus (defScope (top 28)) _ [("index", 2)] = true from by decide +kernel)) (nAs hio (by decide)) (fun _ _ _ _ _ => (sp_name (i := 2) sc_poly_minus.nd (nA hio (by decide)))) (fun _ _ _ _ _ _ => sts_nil) (fun _ _ _ _ _ _ => (se_call g.g_minus hr rfl T.m_minus T.d_minus.kp T.b_minus pass0 (sa_cons (se_call g.g_entry hr rfl T.m_entry T.d_entry.kp T.b_entry pass0 (sa_cons (se_var (i := 0)) (sa_cons (se_var (i := 2)) sa_nil))) (sa_cons (se_call g.g_entry hr rfl T.m_entry T.d_entry.kp T.b_entry pass0 (sa_cons (se_var (i := 1)) (sa_cons (se_var (i := 2)) sa_nil))) sa_nil))))) sa_nil))) sb_nil)
theorem st_poly_product {n : Nat} (g : Good P w K mg base a fd n) (T : Txt K mg a fd) : FnOk P w K mg base CX0 (n + 1) (a 19) (fd 19) p_poly_product (spF K (callN Φ (n + 1)) 19 2) := by
  refine fn_step (d := d_poly_product) T.d_poly_product sc_poly_product rfl rfl rfl (fun cdv A outer s H E G Ap hr hio => ?_)
  exact (sb_cons (ss_set (i := 2) sc_poly_product.nd (nA hio (by decide)) (se_bin br_mul (se_lst (sa_cons (se_globX rfl T.k_NONE) sa_nil)) (se_fnB (bl_max rfl) rfl T.f_max PyProof.Rows.boot_max (sa_cons se_int (sa_cons (se_bin br_sub (se_bin br_add (se_fnvB (i := 0) bl_len rfl T.f_len PySem.boot_len) (se_fnvB (i := 1) bl_len rfl T.f_len PySem.boot_len)) se_int) sa_nil))))) (sb_cons (ss_for PassesOwn.never rfl (sg_enum (se_var (i := 0)) T.f_enumerate) (sp_tup rfl (sps_cons (i := 3) sc_poly_product.nd (nA hio (by decide)) (sps_cons (i := 4) sc_poly_product.nd (nA hio (by decide)) sps_nil))) (sb_cons (ss_if (st_cmp (cm_ne hr.units) (se_idxv (i := 4) se_int) se_int (nomark _)) (sb_cons (ss_for PassesOwn.never rfl (sg_enum (se_var (i := 1)) T.f_enumerate) (sp_tup rfl (sps_cons (i := 5) sc_poly_product.nd (nA hio (by decide)) (sps_cons (i := 6) sc_poly_product.nd (nA hio (by decide)) sps_nil))) (sb_cons (ss_put (i := 2) (se_call g.g_plus hr rfl T.m_plus T.d_plus.kp T.b_plus pass0 (sa_cons (se_idxv (i := 2) (se_bin br_add (se_var (i := 3)) (se_var (i := 5)))) (sa_cons (se_call g.g_multiplied hr rfl T.m_multiplied T.d_multiplied.kp T.b_multiplied pass0 (sa_cons (se_var (i := 4)) (sa_cons (se_var (i := 6)) sa_nil))) sa_nil))) (se_bin br_add (se_var (i := 3)) (se_var (i := 5)))) sb_nil)) sb_nil) sb_nil) sb_nil)) (sb_cons (ss_ret (se_call g.g_trimmed hr rfl T.m_trimmed T.d_trimmed.kp T.b_trimmed pass0 (sa_cons (se_var (i := 2)) sa_nil))) sb_nil)))
theorem st_derived {n : Nat} (g : Good P w K mg base a fd n) (T : Txt K mg a fd) : FnOk P w K mg base CX0 (n + 1) (a 20) (fd 20) p_derived (spF K (callN Φ (n + 1)) 20 1) := by
  refine fn_step (d := d_derived) T.d_derived sc_derived rfl rfl rfl (fun cdv A outer s H E G Ap hr hio => ?_)
  exact (sb_cons (ss_ret (se_call g.g_trimmed hr rfl T.m_trimmed T.d_trimmed.kp T.b_trimmed pass0 (sa_cons (se_slc (se_lc (own := [("index", 1), ("here", 2)]) rfl sc_derived.nd (sg_enum (se_var (i := 0)) T.f_enumerate) (blkOk_by (own := [("index", 1), ("here", 2)]) (show blkC n_derived (defScope (top 30)) _ [("index", 1), ("here", 2)] = true from by decide +kernel)) (nAs hio (by decide)) (fun _ _ _ _ _ => (sp_tup rfl (sps_cons (i := 1) sc_derived.nd (nA hio (by decide)) (sps_cons (i := 2) sc_derived.nd (nA hio (by decide)) sps_nil)))) (fun _ _ _ _ _ _ => sts_nil) (fun _ _ _ _ _ _ => (se_call g.g_multiplied hr rfl T.m_multiplied T.d_multiplied.kp T.b_multiplied pass0 (sa_cons (se_tup (sa_cons (se_var (i := 1)) (sa_cons se_int sa_nil))) (sa_cons (se_var (i := 2)) sa_nil))))) (so_some se_int) so_none) sa_nil))) sb_nil)
theorem st_check_polys {n : Nat} (g : Good P w K mg base a fd n) (T : Txt K mg a fd) : FnOk P w K mg base CX0 (n + 1) (a 21) (fd 21) p_check_polys (spF K (callN Φ (n + 1)) 21 1) := by
  refine fn_step (d := d_check_polys) T.d_check_polys sc_check_polys rfl rfl rfl (fun cdv A outer s H E G Ap hr hio => ?_)
  exact (sb_cons (ss_for PassesOwn.never rfl (sg_seq (se_var (i := 0))) (sp_name (i := 1) sc_check_polys.nd (nA hio (by decide))) (sb_cons (ss_if (st_not (st_val (se_call g.g_is_poly hr rfl T.m_is_poly T.d_is_poly.kp T.b_is_poly pass0 (sa_cons (se_var (i := 1)) sa_nil)))) (sb_cons ss_nope sb_nil) sb_nil) sb_nil)) sb_nil)
theorem st_poly_sum {n : Nat} (g : Good P w K mg base a fd n) (T : Txt K mg a fd) : FnOk P w K mg base CX0 (n + 1) (a 22) (fd 22) p_poly_sum (spF K (callN Φ (n + 1)) 22 2) := by
  refine fn_step (d := d_poly_sum) T.d_poly_sum sc_poly_sum rfl rfl rfl (fun cdv A outer s H E G Ap hr hio => ?_)
  exact (sb_cons (ss_ex (se_call g.g_check_polys hr rfl T.m_check_polys T.d_check_polys.kp T.b_check_polys pass0 (sa_cons (se_lst (sa_cons (se_var (i := 0)) (sa_cons (se_var (i := 1)) sa_nil))) sa_nil))) (sb_cons (ss_ret (se_call g.g_poly_plus hr rfl T.m_poly_plus T.d_poly_plus.kp T.b_poly_plus pass0 (sa_cons (se_var (i := 0)) (sa_cons (se_var (i := 1)) sa_nil)))) sb_nil))
theorem st_poly_less {n : Nat} (g : Good P w K mg base a fd n) (T : Txt K mg a fd) : FnOk P w K mg base CX0 (n + 1) (a 23) (fd 23) p_poly_less (spF K (callN Φ (n + 1)) 23 2) := by
  refine fn_step (d := d_poly_less) T.d_poly_less sc_poly_less rfl rfl rfl (fun cdv A outer s H E G Ap hr hio => ?_)
  exact (sb_cons (ss_ex (se_call g.g_check_polys hr rfl T.m_check_polys T.d_check_polys.kp T.b_check_polys pass0 (sa_cons (se_lst (sa_cons (se_var (i := 0)) (sa_cons (se_var (i := 1)) sa_nil))) sa_nil))) (sb_cons (ss_ret (se_call g.g_poly_minus hr rfl T.m_poly_minus T.d_poly_minus.kp T.b_poly_minus pass0 (sa_cons (se_var (i := 0)) (sa_cons (se_var (i := 1)) sa_nil)))) sb_nil))
theorem st_poly_times {n : Nat} (g : Good P w K mg base a fd n) (T : Txt K mg a fd) : FnOk P w K mg base CX0 (n + 1) (a 24) (fd 24) p_poly_times (spF K (callN Φ (n + 1)) 24 2) := by
  refine fn_step (d := d_poly_times) T.d_poly_times sc_poly_times rfl rfl rfl (fun cdv A outer s H E G Ap hr hio => ?_)
  exact (sb_cons (ss_ex (se_call g.g_check_polys hr rfl T.m_check_polys T.d_check_polys.kp T.b_check_polys pass0 (sa_cons (se_lst (sa_cons (se_var (i := 0)) (sa_cons (se_var (i := 1)) sa_nil))) sa_nil))) (sb_cons (ss_ret (se_call g.g_poly_product hr rfl T.m_poly_product T.d_poly_product.kp T.b_poly_product pass0 (sa_cons (se_var (i := 0)) (sa_cons (se_var (i := 1)) sa_nil)))) sb_nil))
theorem st_poly_derived {n : Nat} (g : Good P w K mg base a fd n) (T : Txt K mg a fd) : FnOk P w K mg base CX0 (n + 1) (a 25) (fd 25) p_poly_derived (spF K (callN Φ (n + 1)) 25 1) := by
  refine fn_step (d := d_poly_derived) T.d_poly_derived sc_poly_derived rfl rfl rfl (fun cdv A outer s H E G Ap hr hio => ?_)
  exact (sb_cons (ss_ex (se_call g.g_check_polys hr rfl T.m_check_polys T.d_check_polys.kp T.b_check_polys pass0 (sa_cons (se_lst (sa_cons (se_var (i := 0)) sa_nil)) sa_nil))) (sb_cons (ss_ret (se_call g.g_derived hr rfl T.m_derived T.d_derived.kp T.b_derived pass0 (sa_cons (se_var (i := 0)) sa_nil))) sb_nil))
theorem st_poly_at {n : Nat} (g : Good P w K mg base a fd n) (T : Txt K mg a fd) : FnOk P w K mg base CX0 (n + 1) (a 26) (fd 26) p_poly_at (spF K (callN Φ (n + 1)) 26 2) := by
  refine fn_step (d := d_poly_at) T.d_poly_at sc_poly_at rfl rfl rfl (fun cdv A outer s H E G Ap hr hio => ?_)
  exact (sb_cons (ss_ex (se_call g.g_check_polys hr rfl T.m_check_polys T.d_check_polys.kp T.b_check_polys pass0 (sa_cons (se_lst (sa_cons (se_var (i := 0)) sa_nil)) sa_nil))) (sb_cons (ss_ex (se_call g.g_check_ratios hr rfl T.m_check_ratios T.d_check_ratios.kp T.b_check_ratios pass0 (sa_cons (se_lst (sa_cons (se_var (i := 1)) sa_nil)) sa_nil))) (sb_cons (ss_set (i := 2) sc_poly_at.nd (nA hio (by decide)) (se_globX rfl T.k_NONE)) (sb_cons (ss_for PassesOwn.never rfl (sg_rev (se_fnvT (i := 0) bl_list rfl T.f_list PyProof.Rows.boot_list) T.f_reversed) (sp_name (i := 3) sc_poly_at.nd (nA hio (by decide))) (sb_cons (ss_set (i := 2) sc_poly_at.nd (nA hio (by decide)) (se_call g.g_plus hr rfl T.m_plus T.d_plus.kp T.b_plus pass0 (sa_cons (se_call g.g_multiplied hr rfl T.m_multiplied T.d_multiplied.kp T.b_multiplied pass0 (sa_cons (se_var (i := 2)) (sa_cons (se_var (i := 1)) sa_nil))) (sa_cons (se_var (i := 3)) sa_nil)))) sb_nil)) (sb_cons (ss_retv (i := 2)) sb_nil)))))
theorem st__law_draw {n : Nat} (g : Good P w K mg base a fd n) (T : Txt K mg a fd) : FnOk P w K mg base CX0 (n + 1) (a 27) (fd 27) p__law_draw (spF K (callN Φ (n + 1)) 27 2) := by
  refine fn_step (d := d__law_draw) T.d__law_draw sc__law_draw rfl rfl rfl (fun cdv A outer s H E G Ap hr hio => ?_)
  exact (sb_cons (ss_if (st_cmp cm_gt (se_idxv (i := 0) se_int) se_int (nomark _)) (sb_cons (ss_set (i := 2) sc__law_draw.nd (nA hio (by decide)) (se_bin br_mod (se_fnT bl_int rfl T.f_int PyProof.Rows.boot_int (sa_cons (se_idxv (i := 0) se_int) sa_nil)) (se_var (i := 1)))) (sb_cons (ss_put (i := 0) (se_bin br_fdiv (se_idxv (i := 0) se_int) (se_var (i := 1))) se_int) (sb_cons (ss_retv (i := 2)) sb_nil))) sb_nil) (sb_cons (ss_put (i := 0) (se_bin br_add (se_idxv (i := 0) se_int) se_int) se_int) (sb_cons (ss_set (i := 3) sc__law_draw.nd (nA hio (by decide)) (se_bin br_mod (se_bin br_pow (se_fnT bl_int rfl T.f_int PyProof.Rows.boot_int (sa_cons (se_bin br_add (se_bin br_add (se_idxv (i := 0) se_int) (se_bin br_mul se_int (se_idxv (i := 0) se_int))) se_int) sa_nil)) se_int) se_int)) (sb_cons (ss_ret (se_bin br_mod (se_bin br_fdiv (se_bin br_mod (se_bin br_pow (se_fnT bl_int rfl T.f_int PyProof.Rows.boot_int (sa_cons (se_bin br_add (se_bin br_mul (se_var (i := 3)) se_int) (se_bin br_mul se_int (se_idxv (i := 0) se_int))) sa_nil)) se_int) se_int) se_int) (se_var (i := 1)))) sb_nil))))
theorem st__law_pick {n : Nat} (g : Good P w K mg base a fd n) (T : Txt K mg a fd) : FnOk P w K mg base CX0 (n + 1) (a 28) (fd 28) p__law_pick (spF K (callN Φ (n + 1)) 28 2) := by
  refine fn_step (d := d__law_pick) T.d__law_pick sc__law_pick rfl rfl rfl (fun cdv A outer s H E G Ap hr hio => ?_)
  exact (sb_cons (ss_ret (se_idxv (i := 1) (se_call g.g__law_draw hr rfl T.m__law_draw T.d__law_draw.kp T.b__law_draw pass0 (sa_ref (i := 0) (sa_cons (se_fnvB (i := 1) bl_len rfl T.f_len PySem.boot_len) sa_nil))))) sb_nil)
theorem st__law_mixed {n : Nat} (g : Good P w K mg base a fd n) (T : Txt K mg a fd) : FnOk P w K mg base CX0 (n + 1) (a 29) (fd 29) p__law_mixed (spF K (callN Φ (n + 1)) 29 2) := by
  refine fn_step (d := d__law_mixed) T.d__law_mixed sc__law_mixed rfl rfl rfl (fun cdv A outer s H E G Ap hr hio => ?_)
  exact (sb_cons (ss_set (i := 2) sc__law_mixed.nd (nA hio (by decide)) (se_fnvT (i := 1) bl_list rfl T.f_list PyProof.Rows.boot_list)) (sb_cons (ss_ret (se_lc (own := [("k", 3)]) rfl sc__law_mixed.nd (sg_rng1 (se_fnvB (i := 2) bl_len rfl T.f_len PySem.boot_len) T.f_range) (blkOk_by (own := [("k", 3)]) (show blkC n__law_mixed (defScope (top 41)) _ [("k", 3)] = true from by decide +kernel)) (nAs hio (by decide)) (fun _ _ _ _ _ => (sp_name (i := 3) sc__law_mixed.nd (nA hio (by decide)))) (fun _ _ _ _ _ _ => sts_nil) (fun _ _ _ _ _ _ => (se_popa (i := 2) (se_call g.g__law_draw hr rfl T.m__law_draw T.d__law_draw.kp T.b__law_draw pass0 (sa_ref (i := 0) (sa_cons (se_fnvB (i := 2) bl_len rfl T.f_len PySem.boot_len) sa_nil))))))) sb_nil))
theorem st__law_same {n : Nat} (g : Good P w K mg base a fd n) (T : Txt K mg a fd) : FnOk P w K mg base CX0 (n + 1) (a 30) (fd 30) p__law_same (spF K (callN Φ (n + 1)) 30 2) := by
  refine fn_step (d := d__law_same) T.d__law_same sc__law_same rfl rfl rfl (fun cdv A outer s H E G Ap hr hio => ?_)
  exact (sb_cons (ss_if (st_val (se_isiv (i := 1) (pa_ty rfl T.f_dict (by decide +kernel) pa_ty0) T.f_isinstance)) (sb_cons ss_nope sb_nil) sb_nil) (sb_cons (ss_if (st_val (se_isivT (i := 1) (pa_ty rfl T.f_list PyProof.Rows.boot_list (pa_ty rfl T.f_tuple PyProof.Rows.boot_tuple pa_ty0)) T.f_isinstance)) (sb_cons (ss_if (SW.st (sw_or (st_cmp (cm_ne hr.units) (se_isiv (i := 0) (pa_ty rfl T.f_list PyProof.Rows.boot_list pa_ty0) T.f_isinstance) (se_isiv (i := 1) (pa_ty rfl T.f_list PyProof.Rows.boot_list pa_ty0) T.f_isinstance) (nomark _)) (sw_or1 (st_cmp (cm_ne hr.units) (se_isiv (i := 0) (pa_ty rfl T.f_tuple PyProof.Rows.boot_tuple pa_ty0) T.f_isinstance) (se_isiv (i := 1) (pa_ty rfl T.f_tuple PyProof.Rows.boot_tuple pa_ty0) T.f_isinstance) (nomark _))))) (sb_cons (ss_ret se_bl) sb_nil) sb_nil) (sb_cons (ss_ret (se_bt (sb_and (sb_cmp (cm_eq hr.units) (se_fnvB (i := 0) bl_len rfl T.f_len PySem.boot_len) (se_fnvB (i := 1) bl_len rfl T.f_len PySem.boot_len) (nomark _)) (sb_one (sb_bv (se_fnB (bl_all rfl) rfl T.f_all PyProof.Rows.boot_all (sa_cons (se_lc (own := [("one", 2), ("other", 3)]) rfl sc__law_same.nd (sg_zip (se_var (i := 0)) (se_var (i := 1)) T.f_zip) (blkOk_by (own := [("one", 2), ("other", 3)]) (show blkC n__law_same (defScope (top 43)) _ [("one", 2), ("other", 3)] = true from by decide +kernel)) (nAs hio (by decide)) (fun _ _ _ _ _ => (sp_tup rfl (sps_cons (i := 2) sc__law_same.nd (nA hio (by decide)) (sps_cons (i := 3) sc__law_same.nd (nA hio (by decide)) sps_nil)))) (fun _ _ _ _ _ _ => sts_nil) (fun _ _ _ _ _ _ => (se_call g.g__law_same hr rfl T.m__law_same T.d__law_same.kp T.b__law_same pass0 (sa_cons (se_var (i := 2)) (sa_cons (se_var (i := 3)) sa_nil))))) sa_nil))))))) sb_nil)) sb_nil) (sb_cons (ss_set (i := 4) sc__law_same.nd (nA hio (by decide)) (se_bt (sb_and (sb_cmp (cm_eq hr.units) (se_isiv (i := 0) (pa_ty rfl T.f_bool (by decide +kernel) pa_ty0) T.f_isinstance) (se_isiv (i := 1) (pa_ty rfl T.f_bool (by decide +kernel) pa_ty0) T.f_isinstance) (nomark _)) (sb_one (sb_cmp (cm_eq hr.units) (se_isiv (i := 0) (pa_ty rfl T.f_int PyProof.Rows.boot_int pa_ty0) T.f_isinstance) (se_isiv (i := 1) (pa_ty rfl T.f_int PyProof.Rows.boot_int pa_ty0) T.f_isinstance) (nomark _)))))) (sb_cons (ss_if (SW.st (sw_or (st_val (se_isivT (i := 0) (pa_ty rfl T.f_dict (by decide +kernel) (pa_ty rfl T.f_list PyProof.Rows.boot_list (pa_ty rfl T.f_tuple PyProof.Rows.boot_tuple pa_ty0))) T.f_isinstance)) (sw_or (st_not (st_valv (i := 4))) (sw_or1 (st_cmp (cm_ne hr.units) (se_isiv (i := 0) (pa_ty rfl T.f_str (by decide +kernel) pa_ty0) T.f_isinstance) (se_isiv (i := 1) (pa_ty rfl T.f_str (by decide +kernel) pa_ty0) T.f_isinstance) (nomark _)))))) (sb_cons (ss_ret se_bl) sb_nil) sb_nil) (sb_cons (ss_ret (se_ife (st_cmp cm_is (se_var (i := 1)) se_non (nomark _)) (se_bt (sb_cmp cm_is (se_var (i := 0)) se_non (nomark _))) (se_bt (sb_cmp (cm_eq hr.units) (se_var (i := 0)) (se_var (i := 1)) (nomark _))))) sb_nil)))))
theorem st__law_loose {n : Nat} (g : Good P w K mg base a fd n) (T : Txt K mg a fd) : FnOk P w K mg base CX0 (n + 1) (a 31) (fd 31) p__law_loose (spF K (callN Φ (n + 1)) 31 2) := by
  refine fn_step (d := d__law_loose) T.d__law_loose sc__law_loose rfl rfl rfl (fun cdv A outer s H E G Ap hr hio => ?_)
  exact (sb_cons (ss_if (st_val (se_isiv (i := 1) (pa_ty rfl T.f_dict (by decide +kernel) pa_ty0) T.f_isinstance)) (sb_cons ss_nope sb_nil) sb_nil) (sb_cons (ss_if (st_not (st_val (se_isivT (i := 1) (pa_ty rfl T.f_list PyProof.Rows.boot_list (pa_ty rfl T.f_tuple PyProof.Rows.boot_tuple pa_ty0)) T.f_isinstance))) (sb_cons (ss_retv (i := 1)) sb_nil) sb_nil) (sb_cons (ss_setLc (i := 3) (own := [("part", 4)]) rfl sc__law_loose.nd (nA hio (by decide)) (sg_seq (se_var (i := 1))) (blkOk_by (own := [("part", 4)]) (show blkC n__law_loose (defScope (top 44)) _ [("part", 4)] = true from by decide +kernel)) (nAs hio (by decide)) (fun _ _ _ _ _ => (sp_name (i := 4) sc__law_loose.nd (nA hio (by decide)))) (fun _ _ _ _ _ _ => sts_nil) (fun _ _ _ _ _ _ => (se_call g.g__law_loose hr rfl T.m__law_loose T.d__law_loose.kp T.b__law_loose pass0 (sa_ref (i := 0) (sa_cons (se_var (i := 4)) sa_nil)))) (sw_true rfl rfl rfl (by decide +kernel))) (sb_cons (ss_ret (se_ife (st_cmp cm_gt (se_call g.g__law_draw hr rfl T.m__law_draw T.d__law_draw.kp T.b__law_draw pass0 (sa_ref (i := 0) (sa_cons se_int sa_nil))) se_int (nomark _)) (se_var (i := 3)) (se_fnvT (i := 3) bl_tuple rfl T.f_tuple PyProof.Rows.boot_tuple))) sb_nil))))
theorem st__law_b_copy {n : Nat} (g : Good P w K mg base a fd n) (T : Txt K mg a fd) : FnOk P w K mg base CX0 (n + 1) (a 32) (fd 32) p__law_b_copy (spF K (callN Φ (n + 1)) 32 1) := by
  refine fn_step (d := d__law_b_copy) T.d__law_b_copy sc__law_b_copy rfl rfl rfl (fun cdv A outer s H E G Ap hr hio => ?_)
  exact (sb_cons (ss_if (st_val (se_isiv (i := 0) (pa_ty rfl T.f_dict (by decide +kernel) pa_ty0) T.f_isinstance)) (sb_cons (ss_retD0 (i := 0) rfl sc__law_b_copy.nd (blkOk_by (own := [("key", 1)]) (show blkC n__law_b_copy (defScope (top 45)) _ [("key", 1)] = true from by decide +kernel)) T.f_dict) sb_nil) sb_nil) (sb_cons (ss_if (st_val (se_isiv (i := 0) (pa_ty rfl T.f_list PyProof.Rows.boot_list pa_ty0) T.f_isinstance)) (sb_cons (ss_ret (se_lc (own := [("one", 2)]) rfl sc__law_b_copy.nd (sg_seq (se_var (i := 0))) (blkOk_by (own := [("one", 2)]) (show blkC n__law_b_copy (defScope (top 45)) _ [("one", 2)] = true from by decide +kernel)) (nAs hio (by decide)) (fun _ _ _ _ _ => (sp_name (i := 2) sc__law_b_copy.nd (nA hio (by decide)))) (fun _ _ _ _ _ _ => sts_nil) (fun _ _ _ _ _ _ => (se_call g.g__law_b_copy hr rfl T.m__law_b_copy T.d__law_b_copy.kp T.b__law_b_copy pass0 (sa_cons (se_var (i := 2)) sa_nil))))) sb_nil) sb_nil) (sb_cons (ss_ret (se_ife (st_val (se_isiv (i := 0) (pa_ty rfl T.f_tuple PyProof.Rows.boot_tuple pa_ty0) T.f_isinstance)) (se_fnT bl_tuple rfl T.f_tuple PyProof.Rows.boot_tuple (sa_cons (se_lc (own := [("one", 2)]) rfl sc__law_b_copy.nd (sg_seq (se_var (i := 0))) (blkOk_by (own := [("one", 2)]) (show blkC n__law_b_copy (defScope (top 45)) _ [("one", 2)] = true from by decide +kernel)) (nAs hio (by decide)) (fun _ _ _ _ _ => (sp_name (i := 2) sc__law_b_copy.nd (nA hio (by decide)))) (fun _ _ _ _ _ _ => sts_nil) (fun _ _ _ _ _ _ => (se_call g.g__law_b_copy hr rfl T.m__law_b_copy T.d__law_b_copy.kp T.b__law_b_copy pass0 (sa_cons (se_var (i := 2)) sa_nil)))) sa_nil)) (se_var (i := 0)))) sb_nil)))
theorem st__law_r_low {n : Nat} (g : Good P w K mg base a fd n) (T : Txt K mg a fd) : FnOk P w K mg base CX0 (n + 1) (a 33) (fd 33) p__law_r_low (spF K (callN Φ (n + 1)) 33 2) := by
  refine fn_step (d := d__law_r_low) T.d__law_r_low sc__law_r_low rfl rfl rfl (fun cdv A outer s H E G Ap hr hio => ?_)
  exact (sb_cons (ss_par (i := 2) (j := 3) rfl sc__law_r_low.nd (by decide) (nA hio (by decide)) (nA hio (by decide)) (sa_cons (se_fnvB (i := 0) bl_abs rfl T.f_abs PyProof.Rows.boot_abs) (sa_cons (se_fnvB (i := 1) bl_abs rfl T.f_abs PyProof.Rows.boot_abs) sa_nil))) (sb_cons (ss_whl PassesOwn.never (st_cmp (cm_ne hr.units) (se_var (i := 3)) se_int (nomark _)) (sb_cons (ss_par (i := 2) (j := 3) rfl sc__law_r_low.nd (by decide) (nA hio (by decide)) (nA hio (by decide)) (sa_cons (se_var (i := 3)) (sa_cons (se_bin br_mod (se_var (i := 2)) (se_var (i := 3))) sa_nil))) sb_nil)) (sb_cons (ss_set (i := 2) sc__law_r_low.nd (nA hio (by decide)) (se_ife (st_cmp cm_lt (se_var (i := 1)) se_int (nomark _)) (se_neg (se_var (i := 2))) (se_var (i := 2)))) (sb_cons (ss_ret (se_tup (sa_cons (se_bin br_fdiv (se_var (i := 0)) (se_var (i := 2))) (sa_cons (se_bin br_fdiv (se_var (i := 1)) (se_var (i := 2))) sa_nil)))) sb_nil))))
theorem st__law_r_sum {n : Nat} (g : Good P w K mg base a fd n) (T : Txt K mg a fd) : FnOk P w K mg base CX0 (n + 1) (a 34) (fd 34) p__law_r_sum (spF K (callN Φ (n + 1)) 34 2) := by
  refine fn_step (d := d__law_r_sum) T.d__law_r_sum sc__law_r_sum rfl rfl rfl (fun cdv A outer s H E G Ap hr hio => ?_)
  exact (sb_cons (ss_ret (se_call g.g__law_r_low hr rfl T.m__law_r_low T.d__law_r_low.kp T.b__law_r_low pass0 (sa_cons (se_bin br_add (se_bin br_mul (se_idxv (i := 0) se_int) (se_idxv (i := 1) se_int)) (se_bin br_mul (se_idxv (i := 1) se_int) (se_idxv (i := 0) se_int))) (sa_cons (se_bin br_mul (se_idxv (i := 0) se_int) (se_idxv (i := 1) se_int)) sa_nil)))) sb_nil)
theorem st__law_r_times {n : Nat} (g : Good P w K mg base a fd n) (T : Txt K mg a fd) : FnOk P w K mg base CX0 (n + 1) (a 35) (fd 35) p__law_r_times (spF K (callN Φ (n + 1)) 35 2) := by
  refine fn_step (d := d__law_r_times) T.d__law_r_times sc__law_r_times rfl rfl rfl (fun cdv A outer s H E G Ap hr hio => ?_)
  exact (sb_cons (ss_ret (se_call g.g__law_r_low hr rfl T.m__law_r_low T.d__law_r_low.kp T.b__law_r_low pass0 (sa_cons (se_bin br_mul (se_idxv (i := 0) se_int) (se_idxv (i := 1) se_int)) (sa_cons (se_bin br_mul (se_idxv (i := 0) se_int) (se_idxv (i := 1) se_int)) sa_nil)))) sb_nil)
theorem st__law_r_over {n : Nat} (g : Good P w K mg base a fd n) (T : Txt K mg a fd) : FnOk P w K mg base CX0 (n + 1) (a 36) (fd 36) p__law_r_over (spF K (callN Φ (n + 1)) 36 2) := by
  refine fn_step (d := d__law_r_over) T.d__law_r_over sc__law_r_over rfl rfl rfl (fun cdv A outer s H E G Ap hr hio => ?_)
  exact (sb_cons (ss_ret (se_call g.g__law_r_low hr rfl T.m__law_r_low T.d__law_r_low.kp T.b__law_r_low pass0 (sa_cons (se_bin br_mul (se_idxv (i := 0) se_int) (se_idxv (i := 1) se_int)) (sa_cons (se_bin br_mul (se_idxv (i := 0) se_int) (se_idxv (i := 1) se_int)) sa_nil)))) sb_nil)
theorem st__law_r_minus {n : Nat} (g : Good P w K mg base a fd n) (T : Txt K mg a fd) : FnOk P w K mg base CX0 (n + 1) (a 37) (fd 37) p__law_r_minus (spF K (callN Φ (n + 1)) 37 1) := by
  refine fn_step (d := d__law_r_minus) T.d__law_r_minus sc__law_r_minus rfl rfl rfl (fun cdv A outer s H E G Ap hr hio => ?_)
  exact (sb_cons (ss_ret (se_tup (sa_cons (se_neg (se_idxv (i := 0) se_int)) (sa_cons (se_idxv (i := 0) se_int) sa_nil)))) sb_nil)
theorem st__law_r_drawn {n : Nat} (g : Good P w K mg base a fd n) (T : Txt K mg a fd) : FnOk P w K mg base CX0 (n + 1) (a 38) (fd 38) p__law_r_drawn (spF K (callN Φ (n + 1)) 38 2) := by
  refine fn_step (d := d__law_r_drawn) T.d__law_r_drawn sc__law_r_drawn rfl rfl rfl (fun cdv A outer s H E G Ap hr hio => ?_)
  exact (sb_cons (ss_ret (se_call g.g__law_r_low hr rfl T.m__law_r_low T.d__law_r_low.kp T.b__law_r_low pass0 (sa_cons (se_bin br_sub (se_call g.g__law_draw hr rfl T.m__law_draw T.d__law_draw.kp T.b__law_draw pass0 (sa_ref (i := 0) (sa_cons (se_bin br_add (se_bin br_mul se_int (se_var (i := 1))) se_int) sa_nil))) (se_var (i := 1))) (sa_cons (se_bin br_add se_int (se_call g.g__law_draw hr rfl T.m__law_draw T.d__law_draw.kp T.b__law_draw pass0 (sa_ref (i := 0) (sa_cons (se_call g.g__law_pick hr rfl T.m__law_pick T.d__law_pick.kp T.b__law_pick pass0 (sa_ref (i := 0) (sa_cons (se_lst (sa_cons se_int (sa_cons se_int (sa_cons (se_var (i := 1)) sa_nil)))) sa_nil))) sa_nil)))) sa_nil)))) sb_nil)
theorem st__law_r_is {n : Nat} (g : Good P w K mg base a fd n) (T : Txt K mg a fd) : FnOk P w K mg base CX0 (n + 1) (a 39) (fd 39) p__law_r_is (spF K (callN Φ (n + 1)) 39 1) := by
  refine fn_step (d := d__law_r_is) T.d__law_r_is sc__law_r_is rfl rfl rfl (fun cdv A outer s H E G Ap hr hio => ?_)
  exact (sb_cons (ss_if (SW.st (sw_or (st_not (st_val (se_isivT (i := 0) (pa_ty rfl T.f_list PyProof.Rows.boot_list (pa_ty rfl T.f_tuple PyProof.Rows.boot_tuple pa_ty0)) T.f_isinstance))) (sw_or (st_cmp (cm_ne hr.units) (se_fnvB (i := 0) bl_len rfl T.f_len PySem.boot_len) se_int (nomark _)) (sw_or1 (st_not (st_val (se_fnB (bl_all rfl) rfl T.f_all PyProof.Rows.boot_all (sa_cons (se_lc (own := [("one", 1)]) rfl sc__law_r_is.nd (sg_seq (se_var (i := 0))) (blkOk_by (own := [("one", 1)]) (show blkC n__law_r_is (defScope (top 53)) _ [("one", 1)] = true from by decide +kernel)) (nAs hio (by decide)) (fun _ _ _ _ _ => (sp_name (i := 1) sc__law_r_is.nd (nA hio (by decide)))) (fun _ _ _ _ _ _ => sts_nil) (fun _ _ _ _ _ _ => (se_bt (sb_and (sb_bv (se_isiv (i := 1) (pa_ty rfl T.f_int PyProof.Rows.boot_int pa_ty0) T.f_isinstance)) (sb_one (sb_not (sb_bv (se_isiv (i := 1) (pa_ty rfl T.f_bool (by decide +kernel) pa_ty0) T.f_isinstance)))))))) sa_nil)))))))) (sb_cons (ss_ret se_bl) sb_nil) sb_nil) (sb_cons (ss_ret (se_bt (sb_and (sb_cmp cm_ge (se_idxv (i := 0) se_int) se_int (nomark _)) (sb_one (sb_cmp (cm_eq hr.units) (se_call g.g__law_r_low hr rfl T.m__law_r_low T.d__law_r_low.kp T.b__law_r_low pass0 (sa_cons (se_idxv (i := 0) se_int) (sa_cons (se_idxv (i := 0) se_int) sa_nil))) (se_tup (sa_cons (se_idxv (i := 0) se_int) (sa_cons (se_idxv (i := 0) se_int) sa_nil))) (nomark _)))))) sb_nil))
theorem st__law_r_trimmed {n : Nat} (g : Good P w K mg base a fd n) (T : Txt K mg a fd) : FnOk P w K mg base CX0 (n + 1) (a 40) (fd 40) p__law_r_trimmed (spF K (callN Φ (n + 1)) 40 1) := by
  refine fn_step (d := d__law_r_trimmed) T.d__law_r_trimmed sc__law_r_trimmed rfl rfl rfl (fun cdv A outer s H E G Ap hr hio => ?_)
  exact (sb_cons (ss_setLc (i := 1) (own := [("one", 2)]) rfl sc__law_r_trimmed.nd (nA hio (by decide)) (sg_seq (se_var (i := 0))) (blkOk_by (own := [("one", 2)]) (show blkC n__law_r_trimmed (defScope (top 54)) _ [("one", 2)] = true from by decide +kernel)) (nAs hio (by decide)) (fun _ _ _ _ _ => (sp_name (i := 2) sc__law_r_trimmed.nd (nA hio (by decide)))) (fun _ _ _ _ _ _ => sts_nil) (fun _ _ _ _ _ _ => (se_fnvT (i := 2) bl_tuple rfl T.f_tuple PyProof.Rows.boot_tuple)) (sw_true rfl rfl rfl (by decide +kernel))) (sb_cons (ss_whl PassesOwn.never (SW.st (sw_and (st_valv (i := 1)) (sw_and1 (st_cmp (cm_eq hr.units) (se_idx (se_idxv (i := 1) (se_neg se_int)) se_int) se_int (nomark _))))) (sb_cons (ss_ex (se_pop (i := 1))) sb_nil)) (sb_cons (ss_retv (i := 1)) sb_nil)))
theorem st__law_r_entry {n : Nat} (g : Good P w K mg base a fd n) (T : Txt K mg a fd) : FnOk P w K mg base CX0 (n + 1) (a 41) (fd 41) p__law_r_entry (spF K (callN Φ (n + 1)) 41 2) := by
  refine fn_step (d := d__law_r_entry) T.d__law_r_entry sc__law_r_entry rfl rfl rfl (fun cdv A outer s H E G Ap hr hio => ?_)
  exact (sb_cons (ss_ret (se_ife (st_chain op_le op_lt rfl rfl se_int (se_var (i := 1)) (se_fnvB (i := 0) bl_len rfl T.f_len PySem.boot_len)) (se_fnT bl_tuple rfl T.f_tuple PyProof.Rows.boot_tuple (sa_cons (se_idxv (i := 0) (se_var (i := 1))) sa_nil)) (se_tup (sa_cons se_int (sa_cons se_int sa_nil))))) sb_nil)
theorem st__law_r_product {n : Nat} (g : Good P w K mg base a fd n) (T : Txt K mg a fd) : FnOk P w K mg base CX0 (n + 1) (a 42) (fd 42) p__law_r_product (spF K (callN Φ (n + 1)) 42 3) := by
  refine fn_step (d := d__law_r_product) T.d__law_r_product sc__law_r_product rfl rfl rfl (fun cdv A outer s H E G Ap hr hio => ?_)
  exact (sb_cons (ss_set (i := 3) sc__law_r_product.nd (nA hio (by decide)) (se_lst sa_nil)) (sb_cons (ss_for PassesOwn.never rfl (sg_rng1 (se_var (i := 2)) T.f_range) (sp_name (i := 4) sc__law_r_product.nd (nA hio (by decide))) (sb_cons (ss_set (i := 5) sc__law_r_product.nd (nA hio (by decide)) (se_tup (sa_cons se_int (sa_cons se_int sa_nil)))) (sb_cons (ss_for PassesOwn.never rfl (sg_rng2 (se_fnB (bl_max rfl) rfl T.f_max PyProof.Rows.boot_max (sa_cons se_int (sa_cons (se_bin br_add (se_bin br_sub (se_var (i := 4)) (se_fnvB (i := 1) bl_len rfl T.f_len PySem.boot_len)) se_int) sa_nil))) (se_fnB (bl_min rfl) rfl T.f_min PyProof.Rows.boot_min (sa_cons (se_bin br_add (se_var (i := 4)) se_int) (sa_cons (se_fnvB (i := 0) bl_len rfl T.f_len PySem.boot_len) sa_nil))) T.f_range) (sp_name (i := 6) sc__law_r_product.nd (nA hio (by decide))) (sb_cons (ss_set (i := 5) sc__law_r_product.nd (nA hio (by decide)) (se_call g.g__law_r_sum hr rfl T.m__law_r_sum T.d__law_r_sum.kp T.b__law_r_sum pass0 (sa_cons (se_var (i := 5)) (sa_cons (se_call g.g__law_r_times hr rfl T.m__law_r_times T.d__law_r_times.kp T.b__law_r_times pass0 (sa_cons (se_idxv (i := 0) (se_var (i := 6))) (sa_cons (se_idxv (i := 1) (se_bin br_sub (se_var (i := 4)) (se_var (i := 6)))) sa_nil))) sa_nil)))) sb_nil)) (sb_cons (ss_app (i := 3) (se_var (i := 5))) sb_nil)))) (sb_cons (ss_retv (i := 3)) sb_nil)))
theorem st__law_n_poly {n : Nat} (g : Good P w K mg base a fd n) (T : Txt K mg a fd) : FnOk P w K mg base CX0 (n + 1) (a 43) (fd 43) p__law_n_poly (spF K (callN Φ (n + 1)) 43 1) := by
  refine fn_step (d := d__law_n_poly) T.d__law_n_poly sc__law_n_poly rfl rfl rfl (fun cdv A outer s H E G Ap hr hio => ?_)
  exact (sb_cons (ss_ret (se_call g.g__law_r_trimmed hr rfl T.m__law_r_trimmed T.d__law_r_trimmed.kp T.b__law_r_trimmed pass0 (sa_cons (se_lc (own := [("k", 1)]) rfl sc__law_n_poly.nd (sg_rng1 (se_call g.g__law_draw hr rfl T.m__law_draw T.d__law_draw.kp T.b__law_draw pass0 (sa_ref (i := 0) (sa_cons se_int sa_nil))) T.f_range) (blkOk_by (own := [("k", 1)]) (show blkC n__law_n_poly (defScope (top 58)) _ [("k", 1)] = true from by decide +kernel)) (nAs hio (by decide)) (fun _ _ _ _ _ => (sp_name (i := 1) sc__law_n_poly.nd (nA hio (by decide)))) (fun _ _ _ _ _ _ => sts_nil) (fun _ _ _ _ _ _ => (se_call g.g__law_r_drawn hr rfl T.m__law_r_drawn T.d__law_r_drawn.kp T.b__law_r_drawn pass0 (sa_ref (i := 0) (sa_cons (se_call g.g__law_pick hr rfl T.m__law_pick T.d__law_pick.kp T.b__law_pick pass0 (sa_ref (i := 0) (sa_cons (se_lst (sa_cons se_int (sa_cons se_int (sa_cons se_int sa_nil)))) sa_nil))) sa_nil))))) sa_nil))) sb_nil)
theorem st__law_n_is {n : Nat} (g : Good P w K mg base a fd n) (T : Txt K mg a fd) : FnOk P w K mg base CX0 (n + 1) (a 44) (fd 44) p__law_n_is (spF K (callN Φ (n + 1)) 44 1) := by
  refine fn_step (d := d__law_n_is) T.d__law_n_is sc__law_n_is rfl rfl rfl (fun cdv A outer s H E G Ap hr hio => ?_)
  exact (sb_cons (ss_if (SW.st (sw_or (st_not (st_val (se_isivT (i := 0) (pa_ty rfl T.f_list PyProof.Rows.boot_list (pa_ty rfl T.f_tuple PyProof.Rows.boot_tuple pa_ty0)) T.f_isinstance))) (sw_or (st_cmp cm_gt (se_fnvB (i := 0) bl_len rfl T.f_len PySem.boot_len) se_int (nomark _)) (sw_or1 (st_not (st_val (se_fnB (bl_all rfl) rfl T.f_all PyProof.Rows.boot_all (sa_cons (se_lc (own := [("one", 1)]) rfl sc__law_n_is.nd (sg_seq (se_var (i := 0))) (blkOk_by (own := [("one", 1)]) (show blkC n__law_n_is (defScope (top 59)) _ [("one", 1)] = true from by decide +kernel)) (nAs hio (by decide)) (fun _ _ _ _ _ => (sp_name (i := 1) sc__law_n_is.nd (nA hio (by decide)))) (fun _ _ _ _ _ _ => sts_nil) (fun _ _ _ _ _ _ => (se_call g.g__law_r_is hr rfl T.m__law_r_is T.d__law_r_is.kp T.b__law_r_is pass0 (sa_cons (se_var (i := 1)) sa_nil)))) sa_nil)))))))) (sb_cons (ss_ret se_bl) sb_nil) sb_nil) (sb_cons (ss_ret (se_bt (sb_or (sb_cmp (cm_eq hr.units) (se_fnvB (i := 0) bl_len rfl T.f_len PySem.boot_len) se_int (nomark _)) (sb_one (sb_cmp (cm_ne hr.units) (se_idx (se_idxv (i := 0) (se_neg se_int)) se_int) se_int (nomark _)))))) sb_nil))
theorem st__law_very {n : Nat} (g : Good P w K mg base a fd n) (T : Txt K mg a fd) : FnOk P w K mg base CX0 (n + 1) (a 45) (fd 45) p__law_very (spF K (callN Φ (n + 1)) 45 2) := by
  refine fn_step (d := d__law_very) T.d__law_very sc__law_very rfl rfl rfl (fun cdv A outer s H E G Ap hr hio => ?_)
  exact (sb_cons (ss_if (st_val (se_isiv (i := 1) (pa_ty rfl T.f_list PyProof.Rows.boot_list pa_ty0) T.f_isinstance)) (sb_cons (ss_app (i := 1) se_str) (sb_cons (ss_set (i := 2) sc__law_very.nd (nA hio (by decide)) (se_bt (sb_and (sb_bv (se_isiv (i := 0) (pa_ty rfl T.f_list PyProof.Rows.boot_list pa_ty0) T.f_isinstance)) (sb_and (sb_cmp (cm_eq hr.units) (se_fnvB (i := 0) bl_len rfl T.f_len PySem.boot_len) (se_fnvB (i := 1) bl_len rfl T.f_len PySem.boot_len) (nomark _)) (sb_one (sb_cmp (cm_eq hr.units) (se_idxv (i := 0) (se_neg se_int)) se_str (nomark _))))))) (sb_cons (ss_ex (se_pop (i := 1))) (sb_cons (ss_retv (i := 2)) sb_nil)))) sb_nil) (sb_cons (ss_if (st_val (se_isiv (i := 1) (pa_ty rfl T.f_dict (by decide +kernel) pa_ty0) T.f_isinstance)) (sb_cons (ss_put (i := 1) se_int se_str) (sb_cons ss_nope (sb_cons (ss_ex (se_popa (i := 1) se_str)) (sb_cons (ss_retv (i := 2)) sb_nil)))) sb_nil) (sb_cons (ss_if (SW.st (sw_or (st_val (se_isivT (i := 1) (pa_ty rfl T.f_tuple PyProof.Rows.boot_tuple (pa_ty rfl T.f_str (by decide +kernel) (pa_ty rfl T.f_bool (by decide +kernel) (pa_ty rfl T.f_int PyProof.Rows.boot_int pa_ty0)))) T.f_isinstance)) (sw_or1 (st_cmp cm_is (se_var (i := 1)) se_non (nomark _))))) (sb_cons (ss_ret (se_call g.g__law_same hr rfl T.m__law_same T.d__law_same.kp T.b__law_same pass0 (sa_cons (se_var (i := 0)) (sa_cons (se_var (i := 1)) sa_nil)))) sb_nil) sb_nil) (sb_cons (ss_ret (se_bt (sb_cmp (cm_eq hr.units) (se_var (i := 0)) (se_var (i := 1)) (nomark _)))) sb_nil))))
end
end LW
set_option Elab.async false
set_option linter.all false
set_option maxRecDepth 100000
set_option maxHeartbeats 0
/-! P1: fractions. -/
namespace LW
open PySem PySem.Spec Ev
/-! ### whole numbers -/
abbrev Q2 := Int × Int
def fr (x : Q2) : PyData := .tuple [.int x.1, .int x.2]
def frL (x : Q2) : PyData := .list [.int x.1, .int x.2]
/-- d is the pair x, as a tuple or a list -/
def Fr (d : PyData) (x : Q2) : Prop := d = fr x ∨ d = frL x
theorem Fr.t {x : Q2} : Fr (fr x) x := .inl rfl
theorem Fr.l {x : Q2} : Fr (frL x) x := .inr rfl
theorem Fr.i0 {d : PyData} {x : Q2} (h : Fr d x) : idxD d (.int 0) = some (.int x.1) := by rcases h with rfl | rfl <;> rfl
theorem Fr.i1 {d : PyData} {x : Q2} (h : Fr d x) : idxD d (.int 1) = some (.int x.2) := by rcases h with rfl | rfl <;> rfl
def NR (x : Q2) : Prop := 0 < x.2 ∧ Int.gcd x.1 x.2 = 1
def Bd (k : Nat) (x : Q2) : Prop := x.1.natAbs < 2 ^ k ∧ x.2.natAbs < 2 ^ k
theorem Bd.mono {j k : Nat} {x : Q2} (h : Bd j x) (hk : j ≤ k) : Bd k x := ⟨Nat.lt_of_lt_of_le h.1 (Nat.pow_le_pow_right (by decide) hk), Nat.lt_of_lt_of_le h.2 (Nat.pow_le_pow_right (by decide) hk)⟩
def sg (a b : Int) : Int := if b < 0 then -(Int.gcd a b : Int) else (Int.gcd a b : Int)
def low (a b : Int) : Q2 := (a.fdiv (sg a b), b.fdiv (sg a b))
theorem gcd_pos {a b : Int} (h : b ≠ 0) : 0 < Int.gcd a b := Nat.pos_of_ne_zero fun z => h (Int.eq_zero_of_gcd_eq_zero_right z)
theorem sg_ne {a b : Int} (h : b ≠ 0) : sg a b ≠ 0 := by
  have := gcd_pos (a := a) h
  unfold sg; split <;> omega
theorem sg_abs {a b : Int} : (sg a b).natAbs = Int.gcd a b := by unfold sg; split <;> simp
theorem sg_da (a b : Int) : sg a b ∣ a := by unfold sg; split <;> simp [Int.neg_dvd, Int.gcd_dvd_left]
theorem sg_db (a b : Int) : sg a b ∣ b := by unfold sg; split <;> simp [Int.neg_dvd, Int.gcd_dvd_right]
theorem low_mul {a b : Int} (h : b ≠ 0) : (low a b).1 * sg a b = a ∧ (low a b).2 * sg a b = b := by
  unfold low
  rw [Int.fdiv_eq_ediv_of_dvd (sg_da a b), Int.fdiv_eq_ediv_of_dvd (sg_db a b)]
  exact ⟨Int.ediv_mul_cancel (sg_da a b), Int.ediv_mul_cancel (sg_db a b)⟩
theorem log_lt {n k : Nat} (hk : 0 < k) (h : n < 2 ^ k) : n.log2 < k := by
  by_cases z : n = 0
  · subst z; simpa using hk
  · exact (Nat.log2_lt z).mpr h
theorem divOk_sg {a b : Int} {k : Nat} (h : b ≠ 0) (hb : b.natAbs < 2 ^ k) (hk : k ≤ 9000) : divOk (sg a b) = true := by
  unfold divOk
  rw [Bool.and_eq_true, decide_eq_true_eq, decide_eq_true_eq]
  refine ⟨sg_ne h, ?_⟩
  rw [sg_abs]
  refine log_lt (by decide) (Nat.lt_of_le_of_lt (Nat.le_of_dvd (by omega) ?_) (Nat.lt_of_lt_of_le hb (Nat.pow_le_pow_right (by decide) hk)))
  exact Int.ofNat_dvd_left.mp (Int.gcd_dvd_right ..)
theorem NR_low {a b : Int} (h : b ≠ 0) : NR (low a b) := by
  obtain ⟨h1, h2⟩ := low_mul (a := a) h
  have hs := sg_ne (a := a) h
  have hg : (Int.gcd a b : Int) = Int.gcd (low a b).1 (low a b).2 * (sg a b).natAbs := by
    have e : Int.gcd a b = Int.gcd ((low a b).1 * sg a b) ((low a b).2 * sg a b) := by rw [h1, h2]
    rw [e, Int.gcd_mul_right]; simp
  refine ⟨?_, ?_⟩
  · rcases Int.lt_trichotomy (low a b).2 0 with z | z | z
    · exfalso
      unfold sg at h2 hs
      split at h2
      · rename_i q
        have : 0 < (low a b).2 * -(Int.gcd a b : Int) := Int.mul_pos_of_neg_of_neg z (by have := gcd_pos (a := a) h; omega)
        omega
      · rename_i q
        have : (low a b).2 * (Int.gcd a b : Int) < 0 := Int.mul_neg_of_neg_of_pos z (by have := gcd_pos (a := a) h; omega)
        omega
    · rw [z] at h2; omega
    · exact z
  · rw [sg_abs] at hg
    have hp := gcd_pos (a := a) h
    have hg' : Int.gcd a b = Int.gcd (low a b).1 (low a b).2 * Int.gcd a b := by exact_mod_cast hg
    exact (Nat.eq_of_mul_eq_mul_right hp (by rw [Nat.one_mul]; exact hg')).symm
theorem low_abs {a b : Int} (h : b ≠ 0) : (low a b).1.natAbs ≤ a.natAbs ∧ (low a b).2.natAbs ≤ b.natAbs := by
  obtain ⟨h1, h2⟩ := low_mul (a := a) h
  have hs : 0 < (sg a b).natAbs := Int.natAbs_pos.mpr (sg_ne h)
  constructor
  · conv => rhs; rw [← h1]
    rw [Int.natAbs_mul]; exact Nat.le_mul_of_pos_right _ hs
  · conv => rhs; rw [← h2]
    rw [Int.natAbs_mul]; exact Nat.le_mul_of_pos_right _ hs
theorem Bd_low {a b : Int} {k : Nat} (h : b ≠ 0) (ha : a.natAbs < 2 ^ k) (hb : b.natAbs < 2 ^ k) : Bd k (low a b) :=
  ⟨Nat.lt_of_le_of_lt (low_abs h).1 ha, Nat.lt_of_le_of_lt (low_abs h).2 hb⟩
/-- a fraction in lowest terms stays -/
theorem low_NR {x : Q2} (h : NR x) : low x.1 x.2 = x := by
  obtain ⟨h1, h2⟩ := h
  have : sg x.1 x.2 = 1 := by unfold sg; rw [if_neg (by omega), h2]; rfl
  unfold low; rw [this]
  simp
theorem mulOk_of {i j : Int} {a b : Nat} (h : i.natAbs < 2 ^ a) (h' : j.natAbs < 2 ^ b) (hab : a ≤ 400000) (hb : b ≤ 400000) : mulOk i j = true := by
  unfold mulOk
  rw [decide_eq_true_eq]
  have h1 := log_lt (k := a + 1) (by omega) (Nat.lt_of_lt_of_le h (Nat.pow_le_pow_right (by decide) (by omega)))
  have h2 := log_lt (k := b + 1) (by omega) (Nat.lt_of_lt_of_le h' (Nat.pow_le_pow_right (by decide) (by omega)))
  omega
theorem abs_mul_lt {i j : Int} {a b : Nat} (h : i.natAbs < 2 ^ a) (h' : j.natAbs < 2 ^ b) : (i * j).natAbs < 2 ^ (a + b) := by
  rw [Int.natAbs_mul, Nat.pow_add]
  exact Nat.mul_lt_mul'' h h'
theorem abs_add_lt {i j : Int} {a : Nat} (h : i.natAbs < 2 ^ a) (h' : j.natAbs < 2 ^ a) : (i + j).natAbs < 2 ^ (a + 1) := by
  rw [Nat.pow_succ]; omega
theorem abs_sub_lt {i j : Int} {a : Nat} (h : i.natAbs < 2 ^ a) (h' : j.natAbs < 2 ^ a) : (i - j).natAbs < 2 ^ (a + 1) := by
  rw [Nat.pow_succ]; omega
theorem pow_up {n a b : Nat} (h : n < 2 ^ a) (k : a ≤ b) : n < 2 ^ b := Nat.lt_of_lt_of_le h (Nat.pow_le_pow_right (by decide) k)
/-! ### common, lowest -/
theorem commonLoop {cs : CS} {a b : Option Ov} (x y : Nat) :
    evS cs (.whl (.valv 3) (.cons (.par [2, 3] (.cons (.var 3) (.cons (.bin .mod (.var 2) (.var 3)) (.nil)))) (.nil))) [a, b, some (.imm (.int x)), some (.imm (.int y))] = some (.next, [a, b, some (.imm (.int (Nat.gcd x y : Nat))), some (.imm (.int (0 : Nat)))]) := by
  rw [s_whl]
  induction y using Nat.strongRecOn generalizing x with
  | ind y ih =>
    by_cases h : y = 0
    · subst h
      rw [whl_stop (ρ1 := [a, b, some (.imm (.int x)), some (.imm (.int (0 : Nat)))]) (by simp)]
      simp
    · rw [whl_go (ρ1 := [a, b, some (.imm (.int x)), some (.imm (.int y))]) (ρ2 := [a, b, some (.imm (.int y)), some (.imm (.int ((x % y : Nat))))]) (by simp [h]) (by simp [h, Int.fmod_eq_emod_of_nonneg]), ih _ (Nat.mod_lt _ (by omega))]
      rw [Nat.gcd_comm y, ← Nat.gcd_rec, Nat.gcd_comm]
theorem rlowLoop {cs : CS} {a b : Option Ov} (x y : Nat) :
    evS cs (.whl (.cmp .ne (.var 3) (.lit (.int 0))) (.cons (.par [2, 3] (.cons (.var 3) (.cons (.bin .mod (.var 2) (.var 3)) (.nil)))) (.nil))) [a, b, some (.imm (.int x)), some (.imm (.int y))] = some (.next, [a, b, some (.imm (.int (Nat.gcd x y : Nat))), some (.imm (.int (0 : Nat)))]) := by
  rw [s_whl]
  induction y using Nat.strongRecOn generalizing x with
  | ind y ih =>
    by_cases h : y = 0
    · subst h
      rw [whl_stop (ρ1 := [a, b, some (.imm (.int x)), some (.imm (.int (0 : Nat)))]) (by simp)]
      simp
    · rw [whl_go (ρ1 := [a, b, some (.imm (.int x)), some (.imm (.int y))]) (ρ2 := [a, b, some (.imm (.int y)), some (.imm (.int ((x % y : Nat))))]) (by simp [h]) (by simp [h, Int.fmod_eq_emod_of_nonneg]), ih _ (Nat.mod_lt _ (by omega))]
      rw [Nat.gcd_comm y, ← Nat.gcd_rec, Nat.gcd_comm]
@[simp] theorem common_ok {n : Nat} {a b : Int} : callN Φ (n + 1) 2 [.imm (.int a), .imm (.int b)] = some (.imm (.int (Int.gcd a b)), []) := by
  rw [callN_code h_common rfl rfl]
  simp [i_common, commonLoop, Int.gcd]
theorem lowest_ok {n k : Nat} {a b : Int} (h : b ≠ 0) (hb : b.natAbs < 2 ^ k) (hk : k ≤ 9000) : callN Φ (n + 2) 3 [.imm (.int a), .imm (.int b)] = some (.imm (fr (low a b)), []) := by
  rw [callN_code h_lowest rfl rfl]
  have hd := divOk_sg (a := a) h hb hk
  by_cases z : b < 0
  · have e : sg a b = 0 - (Int.gcd a b : Int) := by unfold sg; rw [if_pos z]; omega
    rw [e] at hd
    simp only [Int.zero_sub] at hd e
    simp [i_lowest, z, hd, fr, low, e, ll]
  · have e : sg a b = (Int.gcd a b : Int) := by unfold sg; rw [if_neg z]
    rw [e] at hd
    simp [i_lowest, z, hd, fr, low, e, ll]
theorem rlow_ok {n k : Nat} {a b : Int} (h : b ≠ 0) (hb : b.natAbs < 2 ^ k) (hk : k ≤ 9000) : callN Φ (n + 1) 33 [.imm (.int a), .imm (.int b)] = some (.imm (fr (low a b)), []) := by
  rw [callN_code h__law_r_low rfl rfl]
  have hd := divOk_sg (a := a) h hb hk
  by_cases z : b < 0
  · have e : sg a b = -(Int.gcd a b : Int) := by unfold sg; rw [if_pos z]
    rw [e] at hd
    simp only [Int.gcd] at hd e
    simp [i__law_r_low, rlowLoop, z, fr, low, e, ll, hd]
  · have e : sg a b = (Int.gcd a b : Int) := by unfold sg; rw [if_neg z]
    rw [e] at hd
    simp only [Int.gcd] at hd e
    simp [i__law_r_low, rlowLoop, z, fr, low, e, ll, hd]
end LW
set_option Elab.async false
set_option linter.all false
set_option maxRecDepth 100000
set_option maxHeartbeats 0
/-! P2: sums, products of fractions; is_ratio. -/
namespace LW
open PySem PySem.Spec Ev
def padd (x y : Q2) : Q2 := low (x.1 * y.2 + y.1 * x.2) (x.2 * y.2)
def psub (x y : Q2) : Q2 := low (x.1 * y.2 - y.1 * x.2) (x.2 * y.2)
def pmul (x y : Q2) : Q2 := low (x.1 * y.1) (x.2 * y.2)
def pdiv (x y : Q2) : Q2 := low (x.1 * y.2) (x.2 * y.1)
def pneg (x : Q2) : Q2 := (-x.1, x.2)
def Dz (x : Q2) : Prop := x.2 ≠ 0
theorem NR.dz {x : Q2} (h : NR x) : x.2 ≠ 0 := by have := h.1; omega
theorem NR_padd {x y : Q2} (hx : x.2 ≠ 0) (hy : y.2 ≠ 0) : NR (padd x y) := NR_low (Int.mul_ne_zero hx hy)
theorem NR_psub {x y : Q2} (hx : x.2 ≠ 0) (hy : y.2 ≠ 0) : NR (psub x y) := NR_low (Int.mul_ne_zero hx hy)
theorem NR_pmul {x y : Q2} (hx : x.2 ≠ 0) (hy : y.2 ≠ 0) : NR (pmul x y) := NR_low (Int.mul_ne_zero hx hy)
theorem NR_pneg {x : Q2} (hx : NR x) : NR (pneg x) := ⟨hx.1, by show Int.gcd (-x.1) x.2 = 1; rw [Int.neg_gcd]; exact hx.2⟩
theorem Bd_padd {j k : Nat} {x y : Q2} (hx : x.2 ≠ 0) (hy : y.2 ≠ 0) (bx : Bd j x) (by' : Bd k y) : Bd (j + k + 1) (padd x y) :=
  Bd_low (Int.mul_ne_zero hx hy) (abs_add_lt (abs_mul_lt bx.1 by'.2) (by rw [Nat.add_comm j k]; exact abs_mul_lt by'.1 bx.2)) (pow_up (abs_mul_lt bx.2 by'.2) (by omega))
theorem Bd_psub {j k : Nat} {x y : Q2} (hx : x.2 ≠ 0) (hy : y.2 ≠ 0) (bx : Bd j x) (by' : Bd k y) : Bd (j + k + 1) (psub x y) :=
  Bd_low (Int.mul_ne_zero hx hy) (abs_sub_lt (abs_mul_lt bx.1 by'.2) (by rw [Nat.add_comm j k]; exact abs_mul_lt by'.1 bx.2)) (pow_up (abs_mul_lt bx.2 by'.2) (by omega))
theorem Bd_pmul {j k : Nat} {x y : Q2} (hx : x.2 ≠ 0) (hy : y.2 ≠ 0) (bx : Bd j x) (by' : Bd k y) : Bd (j + k) (pmul x y) :=
  Bd_low (Int.mul_ne_zero hx hy) (abs_mul_lt bx.1 by'.1) (abs_mul_lt bx.2 by'.2)
theorem Bd_pneg {k : Nat} {x : Q2} (bx : Bd k x) : Bd k (pneg x) := ⟨by show (-x.1).natAbs < _; rw [Int.natAbs_neg]; exact bx.1, bx.2⟩
theorem psub_neg (x y : Q2) : psub x y = padd x (pneg y) := by
  unfold psub padd pneg
  rw [show x.1 * y.2 - y.1 * x.2 = x.1 * y.2 + -y.1 * x.2 by rw [Int.neg_mul]; rfl]
section
variable {n j k : Nat} {d e : PyData} {x y : Q2}
theorem plus_ok (hd : Fr d x) (he : Fr e y) (hx : x.2 ≠ 0) (hy : y.2 ≠ 0) (bx : Bd j x) (by' : Bd k y) (hj : j ≤ 4000) (hk : k ≤ 4000) : callN Φ (n + 3) 5 [.imm d, .imm e] = some (.imm (fr (padd x y)), []) := by
  rw [callN_code h_plus rfl rfl]
  have m1 : mulOk x.1 y.2 = true := mulOk_of bx.1 by'.2 (by omega) (by omega)
  have m2 : mulOk y.1 x.2 = true := mulOk_of by'.1 bx.2 (by omega) (by omega)
  have m3 : mulOk x.2 y.2 = true := mulOk_of bx.2 by'.2 (by omega) (by omega)
  have l := lowest_ok (n := n) (a := x.1 * y.2 + y.1 * x.2) (Int.mul_ne_zero hx hy) (abs_mul_lt bx.2 by'.2) (by omega)
  simp [i_plus, hd.i0, hd.i1, he.i0, he.i1, m1, m2, m3, l, padd]
theorem minus_ok (hd : Fr d x) (he : Fr e y) (hx : x.2 ≠ 0) (hy : y.2 ≠ 0) (bx : Bd j x) (by' : Bd k y) (hj : j ≤ 4000) (hk : k ≤ 4000) : callN Φ (n + 3) 6 [.imm d, .imm e] = some (.imm (fr (psub x y)), []) := by
  rw [callN_code h_minus rfl rfl]
  have m1 : mulOk x.1 y.2 = true := mulOk_of bx.1 by'.2 (by omega) (by omega)
  have m2 : mulOk y.1 x.2 = true := mulOk_of by'.1 bx.2 (by omega) (by omega)
  have m3 : mulOk x.2 y.2 = true := mulOk_of bx.2 by'.2 (by omega) (by omega)
  have l := lowest_ok (n := n) (a := x.1 * y.2 - y.1 * x.2) (Int.mul_ne_zero hx hy) (abs_mul_lt bx.2 by'.2) (by omega)
  simp [i_minus, hd.i0, hd.i1, he.i0, he.i1, m1, m2, m3, l, psub]
theorem multiplied_ok (hd : Fr d x) (he : Fr e y) (hx : x.2 ≠ 0) (hy : y.2 ≠ 0) (bx : Bd j x) (by' : Bd k y) (hj : j ≤ 4000) (hk : k ≤ 4000) : callN Φ (n + 3) 7 [.imm d, .imm e] = some (.imm (fr (pmul x y)), []) := by
  rw [callN_code h_multiplied rfl rfl]
  have m1 : mulOk x.1 y.1 = true := mulOk_of bx.1 by'.1 (by omega) (by omega)
  have m3 : mulOk x.2 y.2 = true := mulOk_of bx.2 by'.2 (by omega) (by omega)
  have l := lowest_ok (n := n) (a := x.1 * y.1) (Int.mul_ne_zero hx hy) (abs_mul_lt bx.2 by'.2) (by omega)
  simp [i_multiplied, hd.i0, hd.i1, he.i0, he.i1, m1, m3, l, pmul]
theorem divided_ok (hd : Fr d x) (he : Fr e y) (hx : x.2 ≠ 0) (hy : y.1 ≠ 0) (bx : Bd j x) (by' : Bd k y) (hj : j ≤ 4000) (hk : k ≤ 4000) : callN Φ (n + 3) 8 [.imm d, .imm e] = some (.imm (fr (pdiv x y)), []) := by
  rw [callN_code h_divided rfl rfl]
  have m1 : mulOk x.1 y.2 = true := mulOk_of bx.1 by'.2 (by omega) (by omega)
  have m3 : mulOk x.2 y.1 = true := mulOk_of bx.2 by'.1 (by omega) (by omega)
  have l := lowest_ok (n := n) (a := x.1 * y.2) (Int.mul_ne_zero hx hy) (abs_mul_lt bx.2 by'.1) (by omega)
  simp [i_divided, hd.i0, hd.i1, he.i0, he.i1, m1, m3, l, pdiv]
theorem rsum_ok (hd : Fr d x) (he : Fr e y) (hx : x.2 ≠ 0) (hy : y.2 ≠ 0) (bx : Bd j x) (by' : Bd k y) (hj : j ≤ 4000) (hk : k ≤ 4000) : callN Φ (n + 2) 34 [.imm d, .imm e] = some (.imm (fr (padd x y)), []) := by
  rw [callN_code h__law_r_sum rfl rfl]
  have m1 : mulOk x.1 y.2 = true := mulOk_of bx.1 by'.2 (by omega) (by omega)
  have m2 : mulOk y.1 x.2 = true := mulOk_of by'.1 bx.2 (by omega) (by omega)
  have m3 : mulOk x.2 y.2 = true := mulOk_of bx.2 by'.2 (by omega) (by omega)
  have l := rlow_ok (n := n) (a := x.1 * y.2 + y.1 * x.2) (Int.mul_ne_zero hx hy) (abs_mul_lt bx.2 by'.2) (by omega)
  simp [i__law_r_sum, hd.i0, hd.i1, he.i0, he.i1, m1, m2, m3, l, padd]
theorem rtimes_ok (hd : Fr d x) (he : Fr e y) (hx : x.2 ≠ 0) (hy : y.2 ≠ 0) (bx : Bd j x) (by' : Bd k y) (hj : j ≤ 4000) (hk : k ≤ 4000) : callN Φ (n + 2) 35 [.imm d, .imm e] = some (.imm (fr (pmul x y)), []) := by
  rw [callN_code h__law_r_times rfl rfl]
  have m1 : mulOk x.1 y.1 = true := mulOk_of bx.1 by'.1 (by omega) (by omega)
  have m3 : mulOk x.2 y.2 = true := mulOk_of bx.2 by'.2 (by omega) (by omega)
  have l := rlow_ok (n := n) (a := x.1 * y.1) (Int.mul_ne_zero hx hy) (abs_mul_lt bx.2 by'.2) (by omega)
  simp [i__law_r_times, hd.i0, hd.i1, he.i0, he.i1, m1, m3, l, pmul]
theorem rover_ok (hd : Fr d x) (he : Fr e y) (hx : x.2 ≠ 0) (hy : y.1 ≠ 0) (bx : Bd j x) (by' : Bd k y) (hj : j ≤ 4000) (hk : k ≤ 4000) : callN Φ (n + 2) 36 [.imm d, .imm e] = some (.imm (fr (pdiv x y)), []) := by
  rw [callN_code h__law_r_over rfl rfl]
  have m1 : mulOk x.1 y.2 = true := mulOk_of bx.1 by'.2 (by omega) (by omega)
  have m3 : mulOk x.2 y.1 = true := mulOk_of bx.2 by'.1 (by omega) (by omega)
  have l := rlow_ok (n := n) (a := x.1 * y.2) (Int.mul_ne_zero hx hy) (abs_mul_lt bx.2 by'.1) (by omega)
  simp [i__law_r_over, hd.i0, hd.i1, he.i0, he.i1, m1, m3, l, pdiv]
theorem rminus_ok (hd : Fr d x) : callN Φ (n + 1) 37 [.imm d] = some (.imm (fr (pneg x)), []) := by
  rw [callN_code h__law_r_minus rfl rfl]
  simp [i__law_r_minus, hd.i0, hd.i1, pneg, fr, ll]
end
/-! ### what is a fraction -/
/-- a whole number (no bool) -/
def isI : PyData → Bool
  | .int _ => true
  | _ => false
def ratL : List PyData → Bool
  | [.int p, .int q] => decide (1 ≤ q) && decide (Int.gcd p q = 1)
  | _ => false
def ratD (d : PyData) : Bool := match seqOf d with
  | some xs => ratL xs
  | none => false
def isSeq : PyData → Bool
  | .list _ | .tuple _ => true
  | _ => false
theorem isiD_int (d : PyData) : isiD d ["int"] = (isI d || isiD d ["bool"]) := by cases d <;> rfl
theorem isI_eq (d : PyData) : (isiD d ["int"] && !isiD d ["bool"]) = isI d := by cases d <;> rfl
theorem isSeq_eq (d : PyData) : isiD d ["list", "tuple"] = isSeq d := by cases d <;> rfl
@[simp] theorem is_integer_ok {n : Nat} {d : PyData} : callN Φ (n + 1) 0 [.imm d] = some (.imm (.bool (isI d)), []) := by
  rw [callN_code h_is_integer rfl rfl, ← isI_eq]
  cases h : isiD d ["int"] <;> simp [i_is_integer, h]
@[simp] theorem is_list_ok {n : Nat} {d : PyData} : callN Φ (n + 1) 1 [.imm d] = some (.imm (.bool (isSeq d)), []) := by
  rw [callN_code h_is_list rfl rfl, ← isSeq_eq]
  simp [i_is_list]
theorem seqOf_isSeq {d : PyData} : isSeq d = (seqOf d).isSome := by cases d <;> rfl
theorem fnD_len {d : PyData} {xs : List PyData} (h : seqOf d = some xs) : fnD .len [d] = some (.imm (.int xs.length)) := by
  cases d <;> first | (cases h; rfl) | cases h
theorem idxD_seq {d : PyData} {xs : List PyData} (h : seqOf d = some xs) (i : Int) : idxD d (.int i) = atD xs i := by
  cases d <;> first | (cases h; rfl) | cases h
theorem allInts {n : Nat} {o : Option Ov} {d : PyData} {xs : List PyData} : goLc [1] (evT (callN Φ (n + 1)) .tt) (ev (callN Φ (n + 1)) (.call 0 (.cons (.var 1) .nil))) xs [some (.imm d), none] = some (xs.map fun x => .bool (isI x), [some (.imm d), none]) :=
  goLc_map (fun x => .bool (isI x)) (by simp) fun x _ => ⟨[some (.imm d), some (.imm x)], [some (.imm d), some (.imm x)], [some (.imm d), some (.imm x)], .imm (.bool (isI x)), by simp, by simp, by simp, rfl, by simp⟩
theorem allInts' {n : Nat} {d : PyData} {xs : List PyData} : goLc [1] (evT (callN Φ n) .tt) (ev (callN Φ n) (.bt (.and (.bv (.isiv 1 ["int"])) (.not (.bv (.isiv 1 ["bool"])))))) xs [some (.imm d), none] = some (xs.map fun x => .bool (isI x), [some (.imm d), none]) :=
  goLc_map (fun x => .bool (isI x)) (by simp) fun x _ => ⟨[some (.imm d), some (.imm x)], [some (.imm d), some (.imm x)], [some (.imm d), some (.imm x)], .imm (.bool (isI x)), by simp, by simp, by rw [← isI_eq]; cases h : isiD x ["int"] <;> simp [h], rfl, by simp⟩
theorem ratL_two {p q : PyData} (h : (isI p && isI q) = false) : ratL [p, q] = false := by
  cases p <;> cases q <;> first | rfl | cases h
theorem two_cases (xs : List PyData) : (xs.length ≠ 2 ∧ ratL xs = false) ∨ ∃ p q, xs = [p, q] := by
  match xs with
  | [] => exact .inl ⟨by simp, rfl⟩
  | [p] => exact .inl ⟨by simp, by cases p <;> rfl⟩
  | [p, q] => exact .inr ⟨p, q, rfl⟩
  | p :: q :: r :: s => exact .inl ⟨by simp, by cases p <;> cases q <;> rfl⟩
@[simp] theorem is_ratio_ok {n : Nat} {d : PyData} : callN Φ (n + 2) 4 [.imm d] = some (.imm (.bool (ratD d)), []) := by
  rw [callN_code h_is_ratio rfl rfl]
  cases h : seqOf d with
  | none => simp [i_is_ratio, seqOf_isSeq, h, ratD]
  | some xs =>
    rcases two_cases xs with ⟨h1, h2⟩ | ⟨p, q, rfl⟩
    · have : ¬ ((xs.length : Int) = 2) := by omega
      simp [i_is_ratio, seqOf_isSeq, h, ratD, fnD_len h, this, h2]
    · have hl := allInts (n := n) (o := none) (d := d) (xs := [p, q])
      cases hi : isI p && isI q with
      | false =>
        simp [i_is_ratio, seqOf_isSeq, h, ratD, fnD_len h, e_lc, hl, backE_non, bools, ratL_two hi]
        revert hi; cases isI p <;> cases isI q <;> simp
      | true =>
        cases p <;> cases q <;> first | cases hi | skip
        rename_i i j
        simp [i_is_ratio, seqOf_isSeq, h, ratD, fnD_len h, e_lc, hl, backE_non, bools, ratL, isI, idxD_seq h]
        by_cases hj : 1 ≤ j
        · simp [hj]; omega
        · simp [hj]
theorem eqD_fr (x y : Q2) : eqD (fr x) (fr y) = some (decide (x = y)) := by
  unfold eqD fr
  simp [SeqAt.shaped, PyData.canLay0, PyData.canLayAll0, PyData.depth, PyData.depthAll, PyData.eqv, PyData.eqvAll, Prod.ext_iff]
  by_cases h1 : x.1 = y.1 <;> by_cases h2 : x.2 = y.2 <;> simp [h1, h2]
theorem low_eq {i j : Int} (hj : 1 ≤ j) : low i j = (i, j) ↔ Int.gcd i j = 1 := by
  constructor
  · intro h
    have := (NR_low (a := i) (b := j) (by omega)).2
    rw [h] at this
    exact this
  · intro h
    exact low_NR (x := (i, j)) ⟨by show 0 < j; omega, h⟩
theorem r_is_ok {n : Nat} {d : PyData} (hb : ∀ i j, seqOf d = some [.int i, .int j] → j.natAbs < 2 ^ 9000) : callN Φ (n + 2) 39 [.imm d] = some (.imm (.bool (ratD d)), []) := by
  rw [callN_code h__law_r_is rfl rfl]
  cases h : seqOf d with
  | none => simp [i__law_r_is, isSeq_eq, seqOf_isSeq, h, ratD]
  | some xs =>
    rcases two_cases xs with ⟨h1, h2⟩ | ⟨p, q, rfl⟩
    · have : ¬ ((xs.length : Int) = 2) := by omega
      simp [i__law_r_is, isSeq_eq, seqOf_isSeq, h, ratD, fnD_len h, this, h2]
    · have hl := allInts' (n := n + 1) (d := d) (xs := [p, q])
      cases hi : isI p && isI q with
      | false =>
        simp [i__law_r_is, isSeq_eq, seqOf_isSeq, h, ratD, fnD_len h, e_lc, hl, backE_non, bools, ratL_two hi]
        revert hi; cases isI p <;> cases isI q <;> simp
      | true =>
        cases p <;> cases q <;> first | cases hi | skip
        rename_i i j
        by_cases hj : 1 ≤ j
        · have l := rlow_ok (n := n) (a := i) (b := j) (by omega) (hb i j h) (by omega)
          have e := eqD_fr (low i j) (i, j)
          simp [fr] at e
          simp [i__law_r_is, isSeq_eq, seqOf_isSeq, h, ratD, fnD_len h, e_lc, hl, backE_non, bools, ratL, isI, idxD_seq h, hj, l, ll, fr, e]
          exact low_eq hj
        · simp [i__law_r_is, isSeq_eq, seqOf_isSeq, h, ratD, fnD_len h, e_lc, hl, backE_non, bools, ratL, isI, idxD_seq h, hj]
end LW
set_option Elab.async false
set_option linter.all false
set_option maxRecDepth 100000
set_option maxHeartbeats 0
/-! P3: polynomials: is_poly, trimmed, entry, sums. -/
namespace LW
open PySem PySem.Spec Ev
inductive All2 {α β : Type} (R : α → β → Prop) : List α → List β → Prop
  | nil : All2 R [] []
  | cons {a b as bs} : R a b → All2 R as bs → All2 R (a :: as) (b :: bs)
section
variable {α β γ : Type} {R : α → β → Prop}
theorem All2.len : ∀ {as : List α} {bs : List β}, All2 R as bs → as.length = bs.length
  | _, _, .nil => rfl
  | _, _, .cons _ h => by simp [h.len]
theorem All2.get : ∀ {as : List α} {bs : List β} {i : Nat} {b : β}, All2 R as bs → bs[i]? = some b → ∃ a, as[i]? = some a ∧ R a b
  | _, _, _, _, .nil, e => by simp at e
  | _, _, 0, _, .cons h _, e => by simp at e; subst e; exact ⟨_, rfl, h⟩
  | _, _, i + 1, _, .cons _ q, e => by
    obtain ⟨a, h1, h2⟩ := q.get (i := i) (by simpa using e)
    exact ⟨a, by simpa using h1, h2⟩
theorem All2.mapR {f : β → α} (h : ∀ b, R (f b) b) : ∀ bs : List β, All2 R (bs.map f) bs
  | [] => .nil
  | b :: bs => .cons (h b) (mapR h bs)
theorem All2.drop : ∀ {as : List α} {bs : List β} (k : Nat), All2 R as bs → All2 R (as.drop k) (bs.drop k)
  | _, _, 0, h => h
  | _, _, _ + 1, .nil => .nil
  | _, _, k + 1, .cons _ q => q.drop k
theorem All2.mem : ∀ {as : List α} {bs : List β} {a : α}, All2 R as bs → a ∈ as → ∃ b ∈ bs, R a b
  | _, _, _, .nil, h => by cases h
  | _, _, _, .cons h q, m => by
    rcases List.mem_cons.mp m with rfl | m
    · exact ⟨_, List.mem_cons_self, h⟩
    · obtain ⟨b, h1, h2⟩ := q.mem m
      exact ⟨b, List.mem_cons_of_mem _ h1, h2⟩
theorem All2.append : ∀ {as : List α} {bs : List β} {as' : List α} {bs' : List β}, All2 R as bs → All2 R as' bs' → All2 R (as ++ as') (bs ++ bs')
  | _, _, _, _, .nil, h => h
  | _, _, _, _, .cons h q, h' => .cons h (q.append h')
theorem All2.rev : ∀ {as : List α} {bs : List β}, All2 R as bs → All2 R as.reverse bs.reverse
  | _, _, .nil => .nil
  | _, _, .cons h q => by rw [List.reverse_cons, List.reverse_cons]; exact q.rev.append (.cons h .nil)
end
/-- d is a list or a tuple of these fractions -/
def Po (d : PyData) (X : List Q2) : Prop := ∃ ds, seqOf d = some ds ∧ All2 Fr ds X
theorem Po.t (X : List Q2) : Po (.tuple (X.map fr)) X := ⟨_, rfl, .mapR (fun _ => .t) X⟩
theorem Po.l (X : List Q2) : Po (.list (X.map fr)) X := ⟨_, rfl, .mapR (fun _ => .t) X⟩
def polyL (xs : List PyData) : Bool := decide (xs.length ≤ 100) && xs.all ratD && (match xs.getLast? with
  | none => true
  | some e => match idxD e (.int 0) with
    | some (.int i) => decide (i ≠ 0)
    | _ => false)
def polyD (d : PyData) : Bool := match seqOf d with
  | some xs => polyL xs
  | none => false
theorem ratD_fr {d : PyData} (h : ratD d = true) : ∃ x, Fr d x ∧ NR x := by
  unfold ratD at h
  have key : ∀ xs, ratL xs = true → ∃ x : Q2, xs = [.int x.1, .int x.2] ∧ NR x := by
    intro xs hx
    rcases two_cases xs with ⟨_, h2⟩ | ⟨p, q, rfl⟩
    · rw [h2] at hx; cases hx
    · cases p <;> cases q <;> first | cases hx | skip
      rename_i i j
      simp [ratL] at hx
      exact ⟨(i, j), rfl, by show 0 < j; omega, hx.2⟩
  cases d <;> simp only [seqOf] at h <;> first | cases h | skip
  · obtain ⟨x, rfl, n⟩ := key _ h; exact ⟨x, .l, n⟩
  · obtain ⟨x, rfl, n⟩ := key _ h; exact ⟨x, .t, n⟩
theorem fr_ratD {d : PyData} {x : Q2} (h : Fr d x) (n : NR x) : ratD d = true := by
  have : ratL [.int x.1, .int x.2] = true := by
    obtain ⟨h1, h2⟩ := n
    simp [ratL, h2]; omega
  rcases h with rfl | rfl <;> exact this
theorem bools_ok (f : PyData → Bool) {xs : List PyData} : (bools (xs.map fun x => .bool (f x))).map (fun bs => Ov.imm (.bool (bs.all id))) = some (.imm (.bool (xs.all f))) := by
  rw [bools_map]; simp [List.all_map]
theorem all_ok (f : PyData → Bool) {xs : List PyData} : fnD .all [.list (xs.map fun x => .bool (f x))] = some (.imm (.bool (xs.all f))) := by
  rw [fnD_all, bools_ok]
theorem allRats {n : Nat} {d : PyData} {xs : List PyData} : goLc [1] (evT (callN Φ (n + 2)) .tt) (ev (callN Φ (n + 2)) (.call 4 (.cons (.var 1) .nil))) xs [some (.imm d), none] = some (xs.map fun x => .bool (ratD x), [some (.imm d), none]) :=
  goLc_map (fun x => .bool (ratD x)) (by simp) fun x _ => ⟨[some (.imm d), some (.imm x)], [some (.imm d), some (.imm x)], [some (.imm d), some (.imm x)], .imm (.bool (ratD x)), by simp, by simp, by simp, rfl, by simp⟩
theorem allRats' {n : Nat} {d : PyData} {xs : List PyData} (hb : ∀ x ∈ xs, ∀ i j, seqOf x = some [.int i, .int j] → j.natAbs < 2 ^ 9000) : goLc [1] (evT (callN Φ (n + 2)) .tt) (ev (callN Φ (n + 2)) (.call 39 (.cons (.var 1) .nil))) xs [some (.imm d), none] = some (xs.map fun x => .bool (ratD x), [some (.imm d), none]) :=
  goLc_map (fun x => .bool (ratD x)) (by simp) fun x hx => ⟨[some (.imm d), some (.imm x)], [some (.imm d), some (.imm x)], [some (.imm d), some (.imm x)], .imm (.bool (ratD x)), by simp, by simp, by simp [r_is_ok (hb x hx)], rfl, by simp⟩
theorem last_ok {xs : List PyData} (hr : xs.all ratD = true) (hl : xs.length ≤ 100) : (xs = [] ∧ polyL xs = true) ∨ ∃ e x, xs.getLast? = some e ∧ Fr e x ∧ xs ≠ [] ∧ polyL xs = decide (x.1 ≠ 0) := by
  cases h : xs.getLast? with
  | none =>
    rw [List.getLast?_eq_none_iff] at h
    subst h
    exact .inl ⟨rfl, rfl⟩
  | some e =>
    have hm : e ∈ xs := List.mem_of_getLast? h
    obtain ⟨x, hx, _⟩ := ratD_fr (List.all_eq_true.mp hr e hm)
    refine .inr ⟨e, x, rfl, hx, ?_, ?_⟩
    · cases xs with
      | nil => cases hm
      | cons a as => simp
    · simp only [polyL, hr, h, hx.i0, hl]; simp
@[simp] theorem is_poly_ok {n : Nat} {d : PyData} : callN Φ (n + 3) 14 [.imm d] = some (.imm (.bool (polyD d)), []) := by
  rw [callN_code h_is_poly rfl rfl]
  cases h : seqOf d with
  | none => simp [i_is_poly, seqOf_isSeq, h, polyD]
  | some xs =>
    by_cases hl : xs.length ≤ 100
    · have hl' : ¬ ((100 : Int) < xs.length) := by omega
      cases hr : xs.all ratD with
      | false =>
        have : polyL xs = false := by simp [polyL, hr]
        simp [i_is_poly, seqOf_isSeq, h, polyD, fnD_len h, hl', e_lc, allRats, all_ok ratD, backE_non, hr, this, -fnD_all]
      | true =>
        rcases last_ok hr hl with ⟨rfl, e⟩ | ⟨e, x, h1, h2, h3, h4⟩
        · simp [i_is_poly, seqOf_isSeq, h, polyD, fnD_len h, e_lc, allRats, backE_non, e, bools]
        · simp [i_is_poly, seqOf_isSeq, h, polyD, fnD_len h, hl', e_lc, allRats, all_ok ratD, backE_non, hr, h1, h2.i0, h3, h4, idxD_seq h, -fnD_all]
    · have hl' : (100 : Int) < xs.length := by omega
      have : polyL xs = false := by simp [polyL]; omega
      simp [i_is_poly, seqOf_isSeq, h, polyD, fnD_len h, hl', this]
theorem n_is_ok {n : Nat} {d : PyData} (hb : ∀ xs, seqOf d = some xs → ∀ x ∈ xs, ∀ i j, seqOf x = some [.int i, .int j] → j.natAbs < 2 ^ 9000) : callN Φ (n + 3) 44 [.imm d] = some (.imm (.bool (polyD d)), []) := by
  rw [callN_code h__law_n_is rfl rfl]
  cases h : seqOf d with
  | none => simp [i__law_n_is, isSeq_eq, seqOf_isSeq, h, polyD]
  | some xs =>
    by_cases hl : xs.length ≤ 100
    · have hl' : ¬ ((100 : Int) < xs.length) := by omega
      have hg := allRats' (n := n) (d := d) (xs := xs) (hb xs h)
      cases hr : xs.all ratD with
      | false =>
        have : polyL xs = false := by simp [polyL, hr]
        simp [i__law_n_is, isSeq_eq, seqOf_isSeq, h, polyD, fnD_len h, hl', e_lc, hg, all_ok ratD, backE_non, hr, this, -fnD_all]
      | true =>
        rcases last_ok hr hl with ⟨rfl, e⟩ | ⟨e, x, h1, h2, h3, h4⟩
        · simp [i__law_n_is, isSeq_eq, seqOf_isSeq, h, polyD, fnD_len h, e_lc, hg, backE_non, e, bools]
        · simp [i__law_n_is, isSeq_eq, seqOf_isSeq, h, polyD, fnD_len h, hl', e_lc, hg, all_ok ratD, backE_non, hr, h1, h2.i0, h3, h4, idxD_seq h, -fnD_all]
    · have hl' : (100 : Int) < xs.length := by omega
      have : polyL xs = false := by simp [polyL]; omega
      simp [i__law_n_is, isSeq_eq, seqOf_isSeq, h, polyD, fnD_len h, hl', this]
/-! ### trimming -/
def ptrim : List Q2 → List Q2
  | [] => []
  | x :: X => match ptrim X with
    | [] => if x.1 = 0 then [] else [x]
    | y :: Y => x :: y :: Y
theorem ptrim_last {X : List Q2} {x : Q2} : ptrim (X ++ [x]) = if x.1 = 0 then ptrim X else X ++ [x] := by
  induction X with
  | nil => by_cases h : x.1 = 0 <;> simp [ptrim, h]
  | cons y X ih =>
    by_cases h : x.1 = 0
    · rw [if_pos h] at ih ⊢
      show ptrim (y :: (X ++ [x])) = _
      unfold ptrim; rw [ih]
    · rw [if_neg h] at ih ⊢
      show ptrim (y :: (X ++ [x])) = _
      unfold ptrim; rw [ih]
      cases X <;> rfl
theorem ptrim_sub {X : List Q2} : ∀ x ∈ ptrim X, x ∈ X := by
  induction X with
  | nil => intro x h; cases h
  | cons y X ih =>
    intro x h
    unfold ptrim at h
    split at h
    · split at h
      · cases h
      · rename_i e _; simp at h; subst h; exact List.mem_cons_self
    · rename_i z Y e
      rcases List.mem_cons.mp h with rfl | h
      · exact List.mem_cons_self
      · exact List.mem_cons_of_mem _ (ih _ (by rw [e]; exact h))
theorem ptrim_len {X : List Q2} : (ptrim X).length ≤ X.length := by
  induction X with
  | nil => exact Nat.le_refl _
  | cons y X ih =>
    unfold ptrim
    split
    · split <;> simp
    · rename_i z Y e; rw [e] at ih; simp at ih ⊢; exact ih
/-- a nought behind does not matter -/
theorem ptrim_zero {X : List Q2} {x : Q2} (h : x.1 = 0) : ptrim (X ++ [x]) = ptrim X := by rw [ptrim_last, if_pos h]
/-- the last of a trimmed one is no nought -/
theorem ptrim_ne {X : List Q2} {x : Q2} (h : (ptrim X).getLast? = some x) : x.1 ≠ 0 := by
  induction X with
  | nil => cases h
  | cons y X ih =>
    unfold ptrim at h
    split at h
    · rename_i e
      split at h
      · cases h
      · rename_i z; simp at h; subst h; exact z
    · rename_i z Y e
      rw [List.getLast?_cons_cons] at h
      exact ih (by rw [e]; exact h)
theorem ptrim_id {X : List Q2} (h : ∀ x, X.getLast? = some x → x.1 ≠ 0) : ptrim X = X := by
  rcases List.eq_nil_or_concat X with rfl | ⟨Y, x, rfl⟩
  · rfl
  · rw [List.concat_eq_append] at h ⊢
    rw [ptrim_last, if_neg (h x (by simp))]
theorem trimLoop {cs : CS} {a b : Option Ov} (X : List Q2) : evS cs (.whl (.and (.valv 1) (.cmp .eq (.idx (.idxv 1 (.neg (.lit (.int 1)))) (.lit (.int 0))) (.lit (.int 0)))) (.cons (.ex (.pop 1)) (.nil))) [a, some (.own (X.map fr)), b] = some (.next, [a, some (.own ((ptrim X).map fr)), b]) := by
  rw [s_whl]
  generalize hn : X.length = n
  induction n generalizing X with
  | zero =>
    obtain rfl : X = [] := List.length_eq_zero_iff.mp hn
    rw [whl_stop (ρ1 := [a, some (.own []), b]) (by simp)]; rfl
  | succ n ih =>
    rcases List.eq_nil_or_concat X with rfl | ⟨Y, x, rfl⟩
    · simp at hn
    · rw [List.concat_eq_append] at hn ⊢
      have hx : idxD (fr x) (.int 0) = some (.int x.1) := Fr.t.i0
      by_cases h : x.1 = 0
      · rw [whl_go (ρ1 := [a, some (.own ((Y ++ [x]).map fr)), b]) (ρ2 := [a, some (.own (Y.map fr)), b]) (by simp [hx, h]) (by rw [b_cons, s_ex, e_pop (xs := (Y ++ [x]).map fr) rfl]; simp)]
        rw [ih Y (by simpa using hn), ptrim_last, if_pos h]
      · rw [whl_stop (ρ1 := [a, some (.own ((Y ++ [x]).map fr)), b]) (by simp [hx, h]), ptrim_last, if_neg h]
theorem All2.mapE {α β : Type} {R : α → β → Prop} {f : α → γ} {g : β → γ} (h : ∀ a b, R a b → f a = g b) : ∀ {as : List α} {bs : List β}, All2 R as bs → as.map f = bs.map g
  | _, _, .nil => rfl
  | _, _, .cons q r => by simp [h _ _ q, r.mapE h]
/-- the pair told as a tuple -/
def tupD (d : PyData) : PyData := match seqOf d with
  | some xs => .tuple xs
  | none => d
theorem Fr.tup {d : PyData} {x : Q2} (h : Fr d x) : tupD d = fr x := by rcases h with rfl | rfl <;> rfl
theorem Fr.fnT {d : PyData} {x : Q2} (h : Fr d x) : fnD .tuple [d] = some (.imm (fr x)) := by rcases h with rfl | rfl <;> rfl
theorem trimmed_ok {n : Nat} {d : PyData} {X : List Q2} (h : Po d X) : callN Φ (n + 1) 15 [.imm d] = some (.own ((ptrim X).map fr), []) := by
  obtain ⟨ds, hs, ha⟩ := h
  have hg : goLc [2] (evT (callN Φ n) .tt) (ev (callN Φ n) (.tup (.cons (.idxv 2 (.lit (.int 0))) (.cons (.idxv 2 (.lit (.int 1))) .nil)))) ds [some (.imm d), none, none] = some (X.map fr, [some (.imm d), none, none]) := by
    rw [← ha.mapE (f := tupD) fun a b q => q.tup]
    refine goLc_map tupD (by simp) fun x hx => ?_
    obtain ⟨q, _, hq⟩ := ha.mem hx
    exact ⟨[some (.imm d), none, some (.imm x)], [some (.imm d), none, some (.imm x)], [some (.imm d), none, some (.imm x)], .imm (fr q), by simp, by simp, by simp [hq.i0, hq.i1, ll, fr], hq.tup.symm, by simp⟩
  rw [callN_code h_trimmed rfl rfl]
  simp [i_trimmed, e_lc, hs, hg, backE_non, trimLoop]
theorem r_trimmed_ok {n : Nat} {d : PyData} {X : List Q2} (h : Po d X) : callN Φ (n + 1) 40 [.imm d] = some (.own ((ptrim X).map fr), []) := by
  obtain ⟨ds, hs, ha⟩ := h
  have hg : goLc [2] (evT (callN Φ n) .tt) (ev (callN Φ n) (.fnv .tuple 2)) ds [some (.imm d), none, none] = some (X.map fr, [some (.imm d), none, none]) := by
    rw [← ha.mapE (f := tupD) fun a b q => q.tup]
    refine goLc_map tupD (by simp) fun x hx => ?_
    obtain ⟨q, _, hq⟩ := ha.mem hx
    exact ⟨[some (.imm d), none, some (.imm x)], [some (.imm d), none, some (.imm x)], [some (.imm d), none, some (.imm x)], .imm (fr q), by simp, by simp, by simp [hq.fnT], hq.tup.symm, by simp⟩
  rw [callN_code h__law_r_trimmed rfl rfl]
  simp [i__law_r_trimmed, e_lc, hs, hg, backE_non, trimLoop]
/-! ### entries -/
def pent (X : List Q2) (i : Nat) : Q2 := X.getD i (0, 1)
theorem entry_ok {n : Nat} {d : PyData} {X : List Q2} (h : Po d X) (i : Nat) : ∃ e, callN Φ (n + 1) 16 [.imm d, .imm (.int i)] = some (.imm e, []) ∧ Fr e (pent X i) := by
  obtain ⟨ds, hs, ha⟩ := h
  rw [callN_code h_entry rfl rfl]
  by_cases hi : i < ds.length
  · obtain ⟨x, hx⟩ : ∃ x, X[i]? = some x := ⟨_, List.getElem?_eq_getElem (by rw [← ha.len]; exact hi)⟩
    obtain ⟨e, he, hf⟩ := ha.get hx
    have h0 : (0 : Int) ≤ i := by omega
    have h1 : (i : Int) < ds.length := by omega
    refine ⟨e, ?_, by rw [pent, List.getD_eq_getElem?_getD, hx]; exact hf⟩
    simp [i_entry, fnD_len hs, idxD_seq hs, h0, h1, he]
  · have hX : X[i]? = none := List.getElem?_eq_none (by rw [← ha.len]; omega)
    have h0 : (0 : Int) ≤ i := by omega
    have h1 : ¬ ((i : Int) < ds.length) := by omega
    refine ⟨fr (0, 1), ?_, by rw [pent, List.getD_eq_getElem?_getD, hX]; exact .t⟩
    simp [i_entry, fnD_len hs, h0, h1, c_NONE, fr]
theorem r_entry_ok {n : Nat} {d : PyData} {X : List Q2} (h : Po d X) (i : Nat) : callN Φ (n + 1) 41 [.imm d, .imm (.int i)] = some (.imm (fr (pent X i)), []) := by
  obtain ⟨ds, hs, ha⟩ := h
  rw [callN_code h__law_r_entry rfl rfl]
  by_cases hi : i < ds.length
  · obtain ⟨x, hx⟩ : ∃ x, X[i]? = some x := ⟨_, List.getElem?_eq_getElem (by rw [← ha.len]; exact hi)⟩
    obtain ⟨e, he, hf⟩ := ha.get hx
    have h0 : (0 : Int) ≤ i := by omega
    have h1 : (i : Int) < ds.length := by omega
    have : pent X i = x := by rw [pent, List.getD_eq_getElem?_getD, hx]; rfl
    simp [i__law_r_entry, fnD_len hs, idxD_seq hs, h0, h1, he, hf.fnT, this]
  · have hX : X[i]? = none := List.getElem?_eq_none (by rw [← ha.len]; omega)
    have h0 : (0 : Int) ≤ i := by omega
    have h1 : ¬ ((i : Int) < ds.length) := by omega
    have : pent X i = (0, 1) := by rw [pent, List.getD_eq_getElem?_getD, hX]; rfl
    simp [i__law_r_entry, fnD_len hs, h0, h1, this, fr, ll]
end LW
set_option Elab.async false
set_option linter.all false
set_option maxRecDepth 100000
set_option maxHeartbeats 0
/-! P4: polynomials: sums, differences, derivatives. -/
namespace LW
open PySem PySem.Spec Ev
theorem goLc_all2 {ρ : Ev.Env} {is : List Nat} {e : Ev.Env → Option (Ov × Ev.Env)} {t : Ev.Env → Option (Bool × Ev.Env)} {ds rs : List PyData} (hc : clrAll is ρ = ρ)
    (h : All2 (fun d r => ∃ ρ1 ρ2 ρ3 o, bindPat is d ρ = some ρ1 ∧ t ρ1 = some (true, ρ2) ∧ e ρ2 = some (o, ρ3) ∧ o.d = r ∧ clrAll is ρ3 = ρ) ds rs) : goLc is t e ds ρ = some (rs, ρ) := by
  induction h with
  | nil => exact goLc_nil
  | cons h _ ih =>
    obtain ⟨ρ1, ρ2, ρ3, o, h1, h2, h3, h4, h5⟩ := h
    rw [goLc_go h1 h2 h3, h5, ih, h4]; rfl
theorem All2.maps {α β γ : Type} {R : β → γ → Prop} {f : α → β} {g : α → γ} : ∀ {l : List α}, (∀ x ∈ l, R (f x) (g x)) → All2 R (l.map f) (l.map g)
  | [], _ => .nil
  | x :: l, h => .cons (h x List.mem_cons_self) (maps fun y hy => h y (List.mem_cons_of_mem _ hy))
theorem All2.imp {α β : Type} {R S : α → β → Prop} : ∀ {as : List α} {bs : List β}, (∀ a b, b ∈ bs → R a b → S a b) → All2 R as bs → All2 S as bs
  | _, _, _, .nil => .nil
  | _, _, h, .cons q r => .cons (h _ _ List.mem_cons_self q) (imp (fun a b hb => h a b (List.mem_cons_of_mem _ hb)) r)
theorem All2.mapL {β γ : Type} {R : γ → β → Prop} {f : β → γ} : ∀ {bs : List β}, (∀ b ∈ bs, R (f b) b) → All2 R (bs.map f) bs
  | [], _ => .nil
  | b :: bs, h => .cons (h b List.mem_cons_self) (mapL fun y hy => h y (List.mem_cons_of_mem _ hy))
theorem All2.mapRt {α β γ : Type} {R : α → γ → Prop} {f : β → γ} : ∀ {as : List α} {bs : List β}, All2 (fun a b => R a (f b)) as bs → All2 R as (bs.map f)
  | _, _, .nil => .nil
  | _, _, .cons q r => .cons q (mapRt r)
/-- fractions in lowest terms of at most k bits -/
def PB (k : Nat) (X : List Q2) : Prop := ∀ x ∈ X, NR x ∧ Bd k x
theorem PB.pent {k : Nat} {X : List Q2} (h : PB k X) (hk : 1 ≤ k) (i : Nat) : NR (pent X i) ∧ Bd k (pent X i) := by
  unfold LW.pent
  rw [List.getD_eq_getElem?_getD]
  cases hx : X[i]? with
  | some x => exact h x (List.mem_of_getElem? hx)
  | none =>
    refine ⟨⟨by decide, by decide⟩, ?_, ?_⟩
    · show 0 < 2 ^ k; exact Nat.pow_pos (by decide)
    · show 1 < 2 ^ k
      exact Nat.one_lt_two_pow (by omega)
theorem PB.mono {j k : Nat} {X : List Q2} (h : PB j X) (hk : j ≤ k) : PB k X := fun x hx => ⟨(h x hx).1, (h x hx).2.mono hk⟩
theorem PB.trim {k : Nat} {X : List Q2} (h : PB k X) : PB k (ptrim X) := fun x hx => h x (ptrim_sub x hx)
def addL (X Y : List Q2) : List Q2 := (List.range (max X.length Y.length)).map fun i => padd (pent X i) (pent Y i)
def subL (X Y : List Q2) : List Q2 := (List.range (max X.length Y.length)).map fun i => psub (pent X i) (pent Y i)
theorem pent_neg (Y : List Q2) (i : Nat) : pent (Y.map pneg) i = pneg (pent Y i) := by
  unfold pent
  rw [List.getD_eq_getElem?_getD, List.getD_eq_getElem?_getD, List.getElem?_map]
  cases Y[i]? <;> rfl
theorem subL_eq (X Y : List Q2) : subL X Y = addL X (Y.map pneg) := by
  unfold subL addL
  rw [List.length_map]
  refine List.map_congr_left fun i _ => ?_
  rw [pent_neg, psub_neg]
theorem rng_all2 {R : PyData → PyData → Prop} {n : Nat} {g : Nat → PyData} (h : ∀ k, k < n → R (.int (k : Nat)) (g k)) : All2 R (rngD 0 n) ((List.range n).map g) := by
  unfold rngD
  exact All2.maps fun k hk => by rw [Int.zero_add]; exact h k (List.mem_range.mp hk)
theorem Po.len {d : PyData} {X : List Q2} (h : Po d X) : fnD .len [d] = some (.imm (.int X.length)) := by
  obtain ⟨ds, hs, ha⟩ := h
  rw [fnD_len hs, ha.len]
theorem max_cast (a b : Nat) : max (a : Int) (b : Int) = ((max a b : Nat) : Int) := by omega
section
variable {n j k : Nat} {d e : PyData} {X Y : List Q2}
theorem poly_plus_ok (hd : Po d X) (he : Po e Y) (hX : PB j X) (hY : PB k Y) (j1 : 1 ≤ j) (k1 : 1 ≤ k) (hj : j ≤ 4000) (hk : k ≤ 4000) (lX : X.length ≤ 1000000) (lY : Y.length ≤ 1000000) : callN Φ (n + 4) 17 [.imm d, .imm e] = some (.own ((ptrim (addL X Y)).map fr), []) := by
  rw [callN_code h_poly_plus rfl rfl]
  have hg : goLc [2] (evT (callN Φ (n + 3)) .tt) (ev (callN Φ (n + 3)) (.call 5 (.cons (.call 16 (.cons (.var 0) (.cons (.var 2) (.nil)))) (.cons (.call 16 (.cons (.var 1) (.cons (.var 2) (.nil)))) (.nil))))) (rngD 0 (max X.length Y.length)) [some (.imm d), some (.imm e), none] = some ((addL X Y).map fr, [some (.imm d), some (.imm e), none]) := by
    unfold addL
    rw [List.map_map]
    refine goLc_all2 (by simp) (rng_all2 fun i hi => ?_)
    obtain ⟨u, hu, fu⟩ := entry_ok (n := n + 2) hd i
    obtain ⟨v, hv, fv⟩ := entry_ok (n := n + 2) he i
    have p := plus_ok (n := n) fu fv (hX.pent j1 i).1.dz (hY.pent k1 i).1.dz (hX.pent j1 i).2 (hY.pent k1 i).2 hj hk
    exact ⟨[some (.imm d), some (.imm e), some (.imm (.int i))], [some (.imm d), some (.imm e), some (.imm (.int i))], [some (.imm d), some (.imm e), some (.imm (.int i))], .imm (fr (padd (pent X i) (pent Y i))), by simp, by simp, by simp [hu, hv, p], rfl, by simp⟩
  have hm : max X.length Y.length ≤ 1000000 := by omega
  have ht := trimmed_ok (n := n + 2) (Po.l (addL X Y))
  have hr : evG (callN Φ (n + 3)) (.rng1 (.fn .max (.cons (.fnv .len 0) (.cons (.fnv .len 1) (.nil))))) [some (.imm d), some (.imm e), none] = some (rngD 0 (max X.length Y.length), [some (.imm d), some (.imm e), none]) := g_rng1N (by simp [hd.len, he.len, max_cast]) hm
  simp [i_poly_plus, e_lc, hr, hg, backE_non, ht]
theorem poly_minus_ok (hd : Po d X) (he : Po e Y) (hX : PB j X) (hY : PB k Y) (j1 : 1 ≤ j) (k1 : 1 ≤ k) (hj : j ≤ 4000) (hk : k ≤ 4000) (lX : X.length ≤ 1000000) (lY : Y.length ≤ 1000000) : callN Φ (n + 4) 18 [.imm d, .imm e] = some (.own ((ptrim (subL X Y)).map fr), []) := by
  rw [callN_code h_poly_minus rfl rfl]
  have hg : goLc [2] (evT (callN Φ (n + 3)) .tt) (ev (callN Φ (n + 3)) (.call 6 (.cons (.call 16 (.cons (.var 0) (.cons (.var 2) (.nil)))) (.cons (.call 16 (.cons (.var 1) (.cons (.var 2) (.nil)))) (.nil))))) (rngD 0 (max X.length Y.length)) [some (.imm d), some (.imm e), none] = some ((subL X Y).map fr, [some (.imm d), some (.imm e), none]) := by
    unfold subL
    rw [List.map_map]
    refine goLc_all2 (by simp) (rng_all2 fun i hi => ?_)
    obtain ⟨u, hu, fu⟩ := entry_ok (n := n + 2) hd i
    obtain ⟨v, hv, fv⟩ := entry_ok (n := n + 2) he i
    have p := minus_ok (n := n) fu fv (hX.pent j1 i).1.dz (hY.pent k1 i).1.dz (hX.pent j1 i).2 (hY.pent k1 i).2 hj hk
    exact ⟨[some (.imm d), some (.imm e), some (.imm (.int i))], [some (.imm d), some (.imm e), some (.imm (.int i))], [some (.imm d), some (.imm e), some (.imm (.int i))], .imm (fr (psub (pent X i) (pent Y i))), by simp, by simp, by simp [hu, hv, p], rfl, by simp⟩
  have hm : max X.length Y.length ≤ 1000000 := by omega
  have ht := trimmed_ok (n := n + 2) (Po.l (subL X Y))
  have hr : evG (callN Φ (n + 3)) (.rng1 (.fn .max (.cons (.fnv .len 0) (.cons (.fnv .len 1) (.nil))))) [some (.imm d), some (.imm e), none] = some (rngD 0 (max X.length Y.length), [some (.imm d), some (.imm e), none]) := g_rng1N (by simp [hd.len, he.len, max_cast]) hm
  simp [i_poly_minus, e_lc, hr, hg, backE_non, ht]
end
end LW
set_option Elab.async false
set_option linter.all false
set_option maxRecDepth 100000
set_option maxHeartbeats 0
/-! P5: derivatives, products of polynomials. -/
namespace LW
open PySem PySem.Spec Ev
def enumQ (n : Nat) : List Q2 → List (Nat × Q2)
  | [] => []
  | x :: X => (n, x) :: enumQ (n + 1) X
theorem enumQ_len : ∀ {X : List Q2} {n : Nat}, (enumQ n X).length = X.length
  | [], _ => rfl
  | _ :: X, n => by unfold enumQ; simp [enumQ_len]
theorem enumQ_get : ∀ {X : List Q2} {n i : Nat}, (enumQ n X)[i]? = X[i]?.map fun x => (n + i, x)
  | [], _, _ => by simp [enumQ]
  | _ :: X, n, 0 => by simp [enumQ]
  | _ :: X, n, i + 1 => by
    unfold enumQ
    rw [List.getElem?_cons_succ, List.getElem?_cons_succ, enumQ_get]
    rw [show n + 1 + i = n + (i + 1) by omega]
theorem enumQ_mem {X : List Q2} {n : Nat} {p : Nat × Q2} (h : p ∈ enumQ n X) : p.2 ∈ X ∧ p.1 < n + X.length := by
  obtain ⟨i, hi⟩ := List.getElem?_of_mem h
  rw [enumQ_get] at hi
  obtain ⟨x, hx, rfl⟩ := Option.map_eq_some_iff.mp hi
  refine ⟨List.mem_of_getElem? hx, ?_⟩
  have := (List.getElem?_eq_some_iff.mp hx).1
  show n + i < _
  omega
/-- an entry of enumerate -/
def En (d : PyData) (p : Nat × Q2) : Prop := ∃ e, d = .tuple [.int (p.1 : Nat), e] ∧ Fr e p.2
theorem enum_all2 : ∀ {ds : List PyData} {X : List Q2} {n : Nat}, All2 Fr ds X → All2 En (enumL n ds) (enumQ n X)
  | _, _, _, .nil => .nil
  | _, _, n, .cons h q => .cons ⟨_, rfl, h⟩ (enum_all2 q)
def pdL (X : List Q2) : List Q2 := (enumQ 0 X).map fun p => pmul ((p.1 : Nat), 1) p.2
def derL (X : List Q2) : List Q2 := (pdL X).drop 1
theorem cut_drop {α : Type} (xs : List α) (k : Nat) : cut xs (some (k : Int)) none = xs.drop k := by
  unfold cut
  rw [HT.sIx_nat, HT.sIx_none]
  by_cases h : k ≤ xs.length
  · rw [Nat.min_eq_left h, List.take_of_length_le (by simp)]
  · rw [Nat.min_eq_right (by omega), List.drop_of_length_le (i := k) (by omega), List.drop_of_length_le (Nat.le_refl _)]; simp
theorem cut_1 {α : Type} (xs : List α) : cut xs (some 1) none = xs.drop 1 := cut_drop xs 1
theorem idx_bits {i : Nat} (h : i < 1000000) : Bd 20 ((i : Int), 1) := by
  refine ⟨?_, show (1 : Int).natAbs < 2 ^ 20 by decide⟩
  show (i : Int).natAbs < 2 ^ 20
  rw [Int.natAbs_natCast]
  exact Nat.lt_trans h (by decide)
@[simp] theorem slcD_list {xs : List PyData} {lo hi : Option Int} : slcD (.list xs) lo hi = some (.own (cut xs lo hi)) := rfl
section
variable {n j k : Nat} {d e : PyData} {X Y : List Q2}
theorem derived_ok (hd : Po d X) (hX : PB k X) (hk : k ≤ 4000) (lX : X.length ≤ 1000000) : callN Φ (n + 4) 20 [.imm d] = some (.own ((ptrim (derL X)).map fr), []) := by
  rw [callN_code h_derived rfl rfl]
  obtain ⟨ds, hs, ha⟩ := id hd
  have hg : goLc [1, 2] (evT (callN Φ (n + 3)) .tt) (ev (callN Φ (n + 3)) (.call 7 (.cons (.tup (.cons (.var 1) (.cons (.lit (.int 1)) (.nil)))) (.cons (.var 2) (.nil))))) (enumL 0 ds) [some (.imm d), none, none] = some ((pdL X).map fr, [some (.imm d), none, none]) := by
    unfold pdL
    rw [List.map_map]
    refine goLc_all2 (by simp) ((enum_all2 ha).imp (fun a b hb h => ?_)).mapRt
    obtain ⟨e, rfl, he⟩ := h
    obtain ⟨hm, hl⟩ := enumQ_mem hb
    have p := multiplied_ok (n := n) (x := ((b.1 : Int), 1)) (d := .tuple [.int (b.1 : Nat), .int 1]) (.inl rfl) he (by show (1 : Int) ≠ 0; decide) (hX _ hm).1.dz (idx_bits (by omega)) (hX _ hm).2 (by omega) hk
    exact ⟨[some (.imm d), some (.imm (.int (b.1 : Nat))), some (.imm e)], [some (.imm d), some (.imm (.int (b.1 : Nat))), some (.imm e)], [some (.imm d), some (.imm (.int (b.1 : Nat))), some (.imm e)], .imm (fr (pmul ((b.1 : Nat), 1) b.2)), by simp, by simp, by simp [p, ll], rfl, by simp⟩
  have ht : callN Φ (n + 3) 15 [.imm (.list ((pdL X).map fr).tail)] = some (.own ((ptrim (derL X)).map fr), []) := by
    have := trimmed_ok (n := n + 2) (Po.l (derL X))
    rw [show (derL X).map fr = ((pdL X).map fr).tail by rw [derL, List.map_drop, List.drop_one]] at this
    exact this
  have hb : backE [some (.imm d), none, none] [1, 2] [some (.imm d), none, none] = [some (.imm d), none, none] := rfl
  simp [i_derived, e_lc, hs, hg, hb, cut_1, ht]
end
/-! ### products -/
def Sx (X Y : List Q2) : Nat → Nat → Q2
  | 0, _ => (0, 1)
  | i + 1, at_ => if i ≤ at_ ∧ at_ < i + Y.length then padd (Sx X Y i at_) (pmul (pent X i) (pent Y (at_ - i))) else Sx X Y i at_
theorem NR_01 : NR (0, 1) := ⟨by decide, by decide⟩
theorem Bd_01 {k : Nat} (h : 1 ≤ k) : Bd k (0, 1) := ⟨show (0 : Int).natAbs < 2 ^ k from Nat.pow_pos (by decide), show (1 : Int).natAbs < 2 ^ k from Nat.one_lt_two_pow (by omega)⟩
theorem Sx_ok {X Y : List Q2} {j k : Nat} (hX : PB j X) (hY : PB k Y) (j1 : 1 ≤ j) (k1 : 1 ≤ k) : ∀ i at_, NR (Sx X Y i at_) ∧ Bd (i * (j + k + 1) + 1) (Sx X Y i at_)
  | 0, _ => ⟨NR_01, Bd_01 (by omega)⟩
  | i + 1, at_ => by
    obtain ⟨n, b⟩ := Sx_ok hX hY j1 k1 i at_
    unfold Sx
    split
    · obtain ⟨n1, b1⟩ := hX.pent j1 i
      obtain ⟨n2, b2⟩ := hY.pent k1 (at_ - i)
      have np := NR_pmul n1.dz n2.dz
      refine ⟨NR_padd n.dz np.dz, ?_⟩
      have := Bd_padd n.dz np.dz b (Bd_pmul n1.dz n2.dz b1 b2)
      refine this.mono ?_
      rw [Nat.add_mul]; omega
    · refine ⟨n, b.mono ?_⟩
      rw [Nat.add_mul]; omega
theorem Sx_same {X Y : List Q2} {at_ : Nat} {a : Nat} : ∀ {b : Nat}, a ≤ b → (∀ i, a ≤ i → i < b → ¬ (i ≤ at_ ∧ at_ < i + Y.length)) → Sx X Y b at_ = Sx X Y a at_
  | 0, h, _ => by obtain rfl : a = 0 := by omega
                  rfl
  | b + 1, h, hc => by
    by_cases z : a = b + 1
    · rw [z]
    · rw [Sx, if_neg (hc b (by omega) (by omega))]
      exact Sx_same (by omega) fun i h1 h2 => hc i h1 (by omega)
theorem low_zero {q : Int} (h : q ≠ 0) : low 0 q = (0, 1) := by
  have e : sg 0 q = q := by
    unfold sg; rw [Int.gcd_zero_left]; split <;> omega
  unfold low; rw [e]; simp
  rw [Int.fdiv_self h]
theorem pmul_zero {x y : Q2} (hx : x.1 = 0) (h1 : x.2 ≠ 0) (h2 : y.2 ≠ 0) : pmul x y = (0, 1) := by
  unfold pmul; rw [hx, Int.zero_mul]; exact low_zero (Int.mul_ne_zero h1 h2)
theorem padd_01 {x : Q2} (h : NR x) : padd x (0, 1) = x := by
  unfold padd; simp; exact low_NR h
theorem Sx_skip {X Y : List Q2} {j k : Nat} (hX : PB j X) (hY : PB k Y) (j1 : 1 ≤ j) (k1 : 1 ≤ k) {i : Nat} (h : (pent X i).1 = 0) (at_ : Nat) : Sx X Y (i + 1) at_ = Sx X Y i at_ := by
  rw [Sx]
  split
  · rw [pmul_zero h (hX.pent j1 i).1.dz (hY.pent k1 _).1.dz, padd_01 (Sx_ok hX hY j1 k1 i at_).1]
  · rfl
theorem Po.get {d : PyData} {X : List Q2} (h : Po d X) {f : Nat} (hf : f < X.length) : ∃ e, idxD d (.int (f : Nat)) = some e ∧ Fr e (pent X f) := by
  obtain ⟨ds, hs, ha⟩ := h
  obtain ⟨x, hx⟩ : ∃ x, X[f]? = some x := ⟨_, List.getElem?_eq_getElem hf⟩
  obtain ⟨e, he, q⟩ := ha.get hx
  exact ⟨e, by rw [idxD_seq hs, atD_nat, he], by rw [pent, List.getD_eq_getElem?_getD, hx]; exact q⟩
/-- the row when i factors are done and m of the next -/
def Tm (X Y : List Q2) (L i m : Nat) : List Q2 := (List.range L).map fun at_ => if i ≤ at_ ∧ at_ < i + m then padd (Sx X Y i at_) (pmul (pent X i) (pent Y (at_ - i))) else Sx X Y i at_
theorem Tm_0 (X Y : List Q2) (L i : Nat) : Tm X Y L i 0 = (List.range L).map (Sx X Y i) := by
  unfold Tm; refine List.map_congr_left fun a _ => ?_; rw [if_neg (by omega)]
theorem Tm_all (X Y : List Q2) (L i : Nat) : Tm X Y L i Y.length = (List.range L).map (Sx X Y (i + 1)) := by
  unfold Tm; refine List.map_congr_left fun a _ => ?_; rw [Sx]
theorem Tm_len {X Y : List Q2} {L i m : Nat} : (Tm X Y L i m).length = L := by unfold Tm; simp
theorem Tm_get {X Y : List Q2} {L i m : Nat} (h : i + m < L) : (Tm X Y L i m)[i + m]? = some (Sx X Y i (i + m)) := by
  unfold Tm
  rw [List.getElem?_map, List.getElem?_range h]
  show some (if _ then _ else _) = _
  rw [if_neg (by omega)]
theorem Tm_set {X Y : List Q2} {L i m : Nat} : (Tm X Y L i m).set (i + m) (padd (Sx X Y i (i + m)) (pmul (pent X i) (pent Y m))) = Tm X Y L i (m + 1) := by
  apply List.ext_getElem?
  intro a
  rw [List.getElem?_set, Tm_len]
  unfold Tm
  rw [List.getElem?_map, List.getElem?_map]
  by_cases ha : a < L
  · rw [List.getElem?_range ha]
    by_cases e : i + m = a
    · subst e
      rw [if_pos rfl, if_pos ha]
      show _ = some (if _ then _ else _)
      rw [if_pos (by omega), show i + m - i = m by omega]
    · rw [if_neg e]
      show some (if _ then _ else _) = some (if _ then _ else _)
      by_cases c : i ≤ a ∧ a < i + m
      · rw [if_pos c, if_pos (by omega)]
      · rw [if_neg c, if_neg (by omega)]
  · rw [List.getElem?_eq_none (l := List.range L) (by simpa using ha)]
    split
    · rw [if_neg (by omega)]; rfl
    · rfl
theorem ixN_nat {n k : Nat} (h : k < n) : ixN n (k : Int) = some k := by
  unfold ixN; rw [if_pos (by omega), if_pos (by omega)]; simp
section
variable {n j k : Nat} {d e : PyData} {X Y : List Q2}
theorem prodInner (hX : PB j X) (hY : PB k Y) (j1 : 1 ≤ j) (k1 : 1 ≤ k) (hb : (X.length + 1) * (j + k + 1) + 1 ≤ 4000) {L i : Nat} (hi : i < X.length) (hL : X.length + Y.length - 1 = L) {h : PyData} (hh : Fr h (pent X i))
    {es : List PyData} {Y2 : List Q2} (q : All2 Fr es Y2) (m : Nat) (a b : Option Ov) (hd : Y.drop m = Y2) : ∃ a' b', goFor [5, 6] (evSs (callN Φ (n + 3)) (.cons (.put 2 (.bin .add (.var 3) (.var 5)) (.call 5 (.cons (.idxv 2 (.bin .add (.var 3) (.var 5))) (.cons (.call 7 (.cons (.var 4) (.cons (.var 6) (.nil)))) (.nil))))) (.nil))) (enumL m es) [some (.imm d), some (.imm e), some (.own ((Tm X Y L i m).map fr)), some (.imm (.int i)), some (.imm h), a, b]
      = some (.next, [some (.imm d), some (.imm e), some (.own ((Tm X Y L i (m + Y2.length)).map fr)), some (.imm (.int i)), some (.imm h), a', b']) := by
  induction q generalizing m a b with
  | nil => exact ⟨a, b, by rw [enumL, goFor_nil]; rfl⟩
  | @cons u y es Y2 hu q ih =>
    have hm : m < Y.length := by
      rcases Nat.lt_or_ge m Y.length with z | z
      · exact z
      · rw [List.drop_of_length_le z] at hd; cases hd
    have hy : pent Y m = y := by
      have : (Y.drop m)[0]? = some y := by rw [hd]; rfl
      rw [List.getElem?_drop] at this
      rw [pent, List.getD_eq_getElem?_getD, show m = m + 0 by rfl, this]; rfl
    have hlt : i + m < L := by omega
    obtain ⟨ns, bs⟩ := Sx_ok hX hY j1 k1 i (i + m)
    obtain ⟨n1, b1⟩ := hX.pent j1 i
    obtain ⟨n2, b2⟩ := hY.pent k1 m
    have hjk : j + k ≤ 4000 := by
      have : 1 * (j + k + 1) ≤ (X.length + 1) * (j + k + 1) := Nat.mul_le_mul_right _ (by omega)
      omega
    have hmul := multiplied_ok (n := n) hh (show Fr u (pent Y m) by rw [hy]; exact hu) n1.dz n2.dz b1 b2 (by omega) (by omega)
    have hik : i * (j + k + 1) + 1 ≤ 4000 := Nat.le_trans (Nat.add_le_add_right (Nat.mul_le_mul_right _ (by omega)) 1) hb
    have hadd := plus_ok (n := n) (d := fr (Sx X Y i (i + m))) (e := fr (pmul (pent X i) (pent Y m))) .t .t ns.dz (NR_pmul n1.dz n2.dz).dz bs (Bd_pmul n1.dz n2.dz b1 b2) hik hjk
    obtain ⟨a', b', ih⟩ := ih (m + 1) (some (.imm (.int (m : Nat)))) (some (.imm u)) (by rw [← List.drop_drop, hd]; rfl)
    refine ⟨a', b', ?_⟩
    have hget : ((Tm X Y L i m).map fr)[i + m]? = some (fr (Sx X Y i (i + m))) := by rw [List.getElem?_map, Tm_get hlt]; rfl
    have hat : atD ((Tm X Y L i m).map fr) ((i : Int) + (m : Int)) = some (fr (Sx X Y i (i + m))) := by rw [← Int.natCast_add, atD_nat]; exact hget
    have hix : ixN ((Tm X Y L i m).map fr).length ((i : Int) + (m : Int)) = some (i + m) := by rw [← Int.natCast_add, List.length_map, Tm_len]; exact ixN_nat hlt
    rw [enumL, goFor_go (ρ1 := [some (.imm d), some (.imm e), some (.own ((Tm X Y L i m).map fr)), some (.imm (.int i)), some (.imm h), some (.imm (.int m)), some (.imm u)])
      (ρ2 := [some (.imm d), some (.imm e), some (.own ((Tm X Y L i (m + 1)).map fr)), some (.imm (.int i)), some (.imm h), some (.imm (.int m)), some (.imm u)]) (by simp)
      (by
        simp [hat, hmul, hadd]
        simp only [List.length_map] at hix
        simp [hix]
        rw [← Tm_set, List.map_set]), ih]
    rw [List.length_cons, show m + (Y2.length + 1) = m + 1 + Y2.length by omega]
theorem All2.pget {es : List PyData} {X2 : List Q2} {m : Nat} {h : PyData} {x : Q2} (hd : X.drop m = x :: X2) : m < X.length ∧ pent X m = x ∧ X.drop (m + 1) = X2 := by
  have hm : m < X.length := by
    rcases Nat.lt_or_ge m X.length with z | z
    · exact z
    · rw [List.drop_of_length_le z] at hd; cases hd
  refine ⟨hm, ?_, by rw [← List.drop_drop, hd]; rfl⟩
  have : (X.drop m)[0]? = some x := by rw [hd]; rfl
  rw [List.getElem?_drop] at this
  rw [pent, List.getD_eq_getElem?_getD, show m = m + 0 by rfl, this]; rfl
theorem prodOuter (hdX : Po e Y) (hX : PB j X) (hY : PB k Y) (j1 : 1 ≤ j) (k1 : 1 ≤ k) (hb : (X.length + 1) * (j + k + 1) + 1 ≤ 4000) {L : Nat} (hL : X.length + Y.length - 1 = L) {es : List PyData} {X2 : List Q2} (q : All2 Fr es X2) (m : Nat) (a1 a2 a3 a4 : Option Ov) (hd : X.drop m = X2) :
    ∃ b1 b2 b3 b4, goFor [3, 4] (evSs (callN Φ (n + 3)) (.cons (.ite (.cmp .ne (.idxv 4 (.lit (.int 0))) (.lit (.int 0))) (.cons (.loop [5, 6] (.enum (.var 1)) (.cons (.put 2 (.bin .add (.var 3) (.var 5)) (.call 5 (.cons (.idxv 2 (.bin .add (.var 3) (.var 5))) (.cons (.call 7 (.cons (.var 4) (.cons (.var 6) (.nil)))) (.nil))))) (.nil))) (.nil)) (.nil)) (.nil))) (enumL m es) [some (.imm d), some (.imm e), some (.own (((List.range L).map (Sx X Y m)).map fr)), a1, a2, a3, a4]
      = some (.next, [some (.imm d), some (.imm e), some (.own (((List.range L).map (Sx X Y (m + X2.length))).map fr)), b1, b2, b3, b4]) := by
  induction q generalizing m a1 a2 a3 a4 with
  | nil => exact ⟨a1, a2, a3, a4, by rw [enumL, goFor_nil]; rfl⟩
  | @cons u x es X2 hu q ih =>
    obtain ⟨hm, hx, hd2⟩ := All2.pget (es := es) (h := u) hd
    obtain ⟨ys, hys, hay⟩ := id hdX
    have hu' : Fr u (pent X m) := by rw [hx]; exact hu
    by_cases hz : (pent X m).1 = 0
    · obtain ⟨b1, b2, b3, b4, ih⟩ := ih (m + 1) (some (.imm (.int (m : Nat)))) (some (.imm u)) a3 a4 hd2
      refine ⟨b1, b2, b3, b4, ?_⟩
      rw [enumL, goFor_go (ρ1 := [some (.imm d), some (.imm e), some (.own (((List.range L).map (Sx X Y m)).map fr)), some (.imm (.int m)), some (.imm u), a3, a4])
        (ρ2 := [some (.imm d), some (.imm e), some (.own (((List.range L).map (Sx X Y (m + 1))).map fr)), some (.imm (.int m)), some (.imm u), a3, a4]) (by simp) (by
          rw [show (List.range L).map (Sx X Y (m + 1)) = (List.range L).map (Sx X Y m) from List.map_congr_left fun a _ => Sx_skip hX hY j1 k1 hz a]
          simp [hu'.i0, hz]), ih]
      rw [List.length_cons, show m + (X2.length + 1) = m + 1 + X2.length by omega]
    · obtain ⟨c1, c2, hin⟩ := prodInner (n := n) (d := d) (e := e) hX hY j1 k1 hb hm hL hu' hay 0 a3 a4 rfl
      obtain ⟨b1, b2, b3, b4, ih⟩ := ih (m + 1) (some (.imm (.int (m : Nat)))) (some (.imm u)) c1 c2 hd2
      refine ⟨b1, b2, b3, b4, ?_⟩
      rw [Tm_0, Nat.zero_add, Tm_all] at hin
      rw [enumL, goFor_go (ρ1 := [some (.imm d), some (.imm e), some (.own (((List.range L).map (Sx X Y m)).map fr)), some (.imm (.int m)), some (.imm u), a3, a4])
        (ρ2 := [some (.imm d), some (.imm e), some (.own (((List.range L).map (Sx X Y (m + 1))).map fr)), some (.imm (.int m)), some (.imm u), c1, c2]) (by simp) (by
          simp [hu'.i0, hz, s_loop, hys, -List.map_map]
          rw [hin]; rfl), ih]
      rw [List.length_cons, show m + (X2.length + 1) = m + 1 + X2.length by omega]
def mulL (X Y : List Q2) : List Q2 := (List.range (X.length + Y.length - 1)).map (Sx X Y X.length)
theorem rep_none (L : Nat) : (List.replicate L [fr (0, 1)]).flatten = ((List.range L).map (Sx X Y 0)).map fr := by
  induction L with
  | zero => rfl
  | succ L ih =>
    rw [List.range_succ, List.map_append, List.map_append, ← ih, List.replicate_succ', List.flatten_append]; rfl
theorem repOk_of {L : Nat} (h : L ≤ 1000000) : repOk 1 ((L : Nat) : Int) = true := by
  unfold repOk
  rw [Bool.and_eq_true, Bool.and_eq_true, decide_eq_true_eq, decide_eq_true_eq, decide_eq_true_eq, Int.toNat_natCast]
  refine ⟨⟨by omega, by omega⟩, ?_⟩
  rw [Nat.one_mul]; exact (rng_ok h).2
theorem poly_product_ok (hd : Po d X) (he : Po e Y) (hX : PB j X) (hY : PB k Y) (j1 : 1 ≤ j) (k1 : 1 ≤ k) (hb : (X.length + 1) * (j + k + 1) + 1 ≤ 4000) (lY : Y.length ≤ 4000) : callN Φ (n + 4) 19 [.imm d, .imm e] = some (.own ((ptrim (mulL X Y)).map fr), []) := by
  rw [callN_code h_poly_product rfl rfl]
  have lX : X.length ≤ 4000 := by
    have : (X.length + 1) * 1 ≤ (X.length + 1) * (j + k + 1) := Nat.mul_le_mul_left _ (by omega)
    omega
  obtain ⟨ds, hs, ha⟩ := id hd
  obtain ⟨b1, b2, b3, b4, ho⟩ := prodOuter (n := n) (d := d) he hX hY j1 k1 hb rfl ha 0 none none none none rfl
  rw [Nat.zero_add] at ho
  have hm : max (0 : Int) ((X.length : Int) + (Y.length : Int) - 1) = ((X.length + Y.length - 1 : Nat) : Int) := by omega
  have hr := repOk_of (L := X.length + Y.length - 1) (by omega)
  have hf := rep_none (X := X) (Y := Y) (X.length + Y.length - 1)
  rw [fr] at hf
  have ht := trimmed_ok (n := n + 2) (Po.l (mulL X Y))
  rw [mulL] at ht
  simp -implicitDefEqProofs [i_poly_product, hd.len, he.len, hm, hr, hs, s_loop, ll, c_NONE, -List.map_map, -List.flatten_replicate_singleton]
  rw [hf, ho]
  simp [ht, mulL, -List.map_map]
end
end LW
set_option Elab.async false
set_option linter.all false
set_option maxRecDepth 100000
set_option maxHeartbeats 0
/-! P6: the law's product, what is checked passes, worths. -/
namespace LW
open PySem PySem.Spec Ev
theorem goFor_rng_succ {ρ : Ev.Env} {is : List Nat} {body : Ev.Env → Option (Out × Ev.Env)} {i n : Nat} : goFor is body (rngD i (n + 1)) ρ = goFor is body (.int (i : Nat) :: rngD ((i + 1 : Nat) : Int) n) ρ := by
  congr 1
  unfold rngD
  rw [List.range_succ_eq_map, List.map_cons, List.map_map]
  simp
  intro a _; omega
theorem rngD_0 {i : Int} : rngD i 0 = [] := rfl
section
variable {n j k : Nat} {d e : PyData} {X Y : List Q2}
theorem rprodInner (hdX : Po d X) (hdY : Po e Y) (hX : PB j X) (hY : PB k Y) (j1 : 1 ≤ j) (k1 : 1 ≤ k) (hb : (X.length + 1) * (j + k + 1) + 1 ≤ 4000) {at_ : Nat} {c f : Option Ov} (s : Nat) :
    ∀ (i : Nat) (g : Option Ov), (∀ t, t < s → i + t ≤ at_ ∧ at_ < i + t + Y.length ∧ i + t < X.length) → ∃ g', goFor [6] (evSs (callN Φ (n + 2)) (.cons (.set 5 (.call 34 (.cons (.var 5) (.cons (.call 35 (.cons (.idxv 0 (.var 6)) (.cons (.idxv 1 (.bin .sub (.var 4) (.var 6))) (.nil)))) (.nil))))) (.nil))) (rngD (i : Nat) s) [some (.imm d), some (.imm e), c, f, some (.imm (.int at_)), some (.imm (fr (Sx X Y i at_))), g]
      = some (.next, [some (.imm d), some (.imm e), c, f, some (.imm (.int at_)), some (.imm (fr (Sx X Y (i + s) at_))), g']) := by
  induction s with
  | zero => intro i g _; exact ⟨g, by rw [rngD_0, goFor_nil]; rfl⟩
  | succ s ih =>
    intro i g h
    obtain ⟨h1, h2, h3⟩ := h 0 (by omega)
    obtain ⟨g', ih⟩ := ih (i + 1) (some (.imm (.int (i : Nat)))) fun t ht => by
      obtain ⟨q1, q2, q3⟩ := h (t + 1) (by omega)
      exact ⟨by omega, by omega, by omega⟩
    refine ⟨g', ?_⟩
    obtain ⟨u, hu, fu⟩ := hdX.get (f := i) (by omega)
    obtain ⟨v, hv, fv⟩ := hdY.get (f := at_ - i) (by omega)
    obtain ⟨ns, bs⟩ := Sx_ok hX hY j1 k1 i at_
    obtain ⟨n1, b1⟩ := hX.pent j1 i
    obtain ⟨n2, b2⟩ := hY.pent k1 (at_ - i)
    have hjk : j + k ≤ 4000 := by
      have : 1 * (j + k + 1) ≤ (X.length + 1) * (j + k + 1) := Nat.mul_le_mul_right _ (by omega)
      omega
    have hmul := rtimes_ok (n := n) fu fv n1.dz n2.dz b1 b2 (by omega) (by omega)
    have hik : i * (j + k + 1) + 1 ≤ 4000 := Nat.le_trans (Nat.add_le_add_right (Nat.mul_le_mul_right _ (by omega)) 1) hb
    have hadd := rsum_ok (n := n) (d := fr (Sx X Y i at_)) (e := fr (pmul (pent X i) (pent Y (at_ - i)))) .t .t ns.dz (NR_pmul n1.dz n2.dz).dz bs (Bd_pmul n1.dz n2.dz b1 b2) hik hjk
    have hS : Sx X Y (i + 1) at_ = padd (Sx X Y i at_) (pmul (pent X i) (pent Y (at_ - i))) := by rw [Sx, if_pos (by omega)]
    have hsub : (at_ : Int) - (i : Int) = ((at_ - i : Nat) : Int) := by omega
    rw [goFor_rng_succ, goFor_go (ρ1 := [some (.imm d), some (.imm e), c, f, some (.imm (.int at_)), some (.imm (fr (Sx X Y i at_))), some (.imm (.int i))])
      (ρ2 := [some (.imm d), some (.imm e), c, f, some (.imm (.int at_)), some (.imm (fr (Sx X Y (i + 1) at_))), some (.imm (.int i))]) (by simp) (by
        rw [hS]
        simp -implicitDefEqProofs [hu, hv, hsub, hmul, hadd]), ih]
    rw [show i + 1 + s = i + (s + 1) by omega]
theorem rprodOuter (hdX : Po d X) (hdY : Po e Y) (hX : PB j X) (hY : PB k Y) (j1 : 1 ≤ j) (k1 : 1 ≤ k) (hb : (X.length + 1) * (j + k + 1) + 1 ≤ 4000) (lY : Y.length ≤ 4000) {c : Option Ov} (s : Nat) :
    ∀ (i : Nat) (f5 f6 f7 : Option Ov), i + s ≤ 100000 → ∃ g5 g6 g7, goFor [4] (evSs (callN Φ (n + 2)) (.cons (.set 5 (.tup (.cons (.lit (.int 0)) (.cons (.lit (.int 1)) (.nil))))) (.cons (.loop [6] (.rng2 (.fn .max (.cons (.lit (.int 0)) (.cons (.bin .add (.bin .sub (.var 4) (.fnv .len 1)) (.lit (.int 1))) (.nil)))) (.fn .min (.cons (.bin .add (.var 4) (.lit (.int 1))) (.cons (.fnv .len 0) (.nil))))) (.cons (.set 5 (.call 34 (.cons (.var 5) (.cons (.call 35 (.cons (.idxv 0 (.var 6)) (.cons (.idxv 1 (.bin .sub (.var 4) (.var 6))) (.nil)))) (.nil))))) (.nil))) (.cons (.app 3 (.var 5)) (.nil))))) (rngD (i : Nat) s) [some (.imm d), some (.imm e), c, some (.own (((List.range i).map (Sx X Y X.length)).map fr)), f5, f6, f7]
      = some (.next, [some (.imm d), some (.imm e), c, some (.own (((List.range (i + s)).map (Sx X Y X.length)).map fr)), g5, g6, g7]) := by
  induction s with
  | zero => intro i f5 f6 f7 _; exact ⟨f5, f6, f7, by rw [rngD_0, goFor_nil]; rfl⟩
  | succ s ih =>
    intro i f5 f6 f7 hle
    have lX : X.length ≤ 4000 := by
      have : (X.length + 1) * 1 ≤ (X.length + 1) * (j + k + 1) := Nat.mul_le_mul_left _ (by omega)
      omega
    -- the inner loop goes from lo to hi
    let lo := i + 1 - Y.length
    let hi := min (i + 1) X.length
    have e1 : max (0 : Int) ((i : Int) - (Y.length : Int) + 1) = ((lo : Nat) : Int) := by show _ = ((i + 1 - Y.length : Nat) : Int); omega
    have e2 : min ((i : Int) + 1) (X.length : Int) = ((hi : Nat) : Int) := by show _ = ((min (i + 1) X.length : Nat) : Int); omega
    have hlo : lo = i + 1 - Y.length := rfl
    have hhi : hi = min (i + 1) X.length := rfl
    have hr : evG (callN Φ (n + 2)) (.rng2 (.fn .max (.cons (.lit (.int 0)) (.cons (.bin .add (.bin .sub (.var 4) (.fnv .len 1)) (.lit (.int 1))) (.nil)))) (.fn .min (.cons (.bin .add (.var 4) (.lit (.int 1))) (.cons (.fnv .len 0) (.nil))))) [some (.imm d), some (.imm e), c, some (.own (((List.range i).map (Sx X Y X.length)).map fr)), some (.imm (.int i)), some (.imm (fr (0, 1))), f7]
      = some (rngD (lo : Nat) (hi - lo), [some (.imm d), some (.imm e), c, some (.own (((List.range i).map (Sx X Y X.length)).map fr)), some (.imm (.int i)), some (.imm (fr (0, 1))), f7]) :=
      g_rng2N (ρ1 := [some (.imm d), some (.imm e), c, some (.own (((List.range i).map (Sx X Y X.length)).map fr)), some (.imm (.int i)), some (.imm (fr (0, 1))), f7])
        (by simp -implicitDefEqProofs [hdY.len, e1]) (by simp -implicitDefEqProofs [hdX.len, e2]) (by omega) (by omega)
    have hstart : Sx X Y lo i = (0, 1) := Sx_same (a := 0) (by omega) fun t _ ht => by omega
    obtain ⟨g', hin⟩ := rprodInner (n := n) hdX hdY hX hY j1 k1 hb (at_ := i) (c := c) (f := some (.own (((List.range i).map (Sx X Y X.length)).map fr))) (hi - lo) lo f7 fun t ht => ⟨by omega, by omega, by omega⟩
    rw [hstart] at hin
    have hend : Sx X Y (lo + (hi - lo)) i = Sx X Y X.length i := by
      rcases Nat.le_total (lo + (hi - lo)) X.length with z | z
      · exact (Sx_same z fun t h1 h2 => by omega).symm
      · exact Sx_same z fun t h1 h2 => by omega
    rw [hend] at hin
    obtain ⟨g5, g6, g7, ih⟩ := ih (i + 1) (some (.imm (.int (i : Nat)))) (some (.imm (fr (Sx X Y X.length i)))) g' (by omega)
    refine ⟨g5, g6, g7, ?_⟩
    have hl : ((List.range i).map (Sx X Y X.length)).length < ll := by rw [List.length_map, List.length_range]; unfold ll; omega
    have hset : evSs (callN Φ (n + 2)) (.cons (.set 5 (.tup (.cons (.lit (.int 0)) (.cons (.lit (.int 1)) (.nil))))) (.cons (.loop [6] (.rng2 (.fn .max (.cons (.lit (.int 0)) (.cons (.bin .add (.bin .sub (.var 4) (.fnv .len 1)) (.lit (.int 1))) (.nil)))) (.fn .min (.cons (.bin .add (.var 4) (.lit (.int 1))) (.cons (.fnv .len 0) (.nil))))) (.cons (.set 5 (.call 34 (.cons (.var 5) (.cons (.call 35 (.cons (.idxv 0 (.var 6)) (.cons (.idxv 1 (.bin .sub (.var 4) (.var 6))) (.nil)))) (.nil))))) (.nil))) (.cons (.app 3 (.var 5)) (.nil)))) [some (.imm d), some (.imm e), c, some (.own (((List.range i).map (Sx X Y X.length)).map fr)), some (.imm (.int i)), f6, f7]
        = some (.next, [some (.imm d), some (.imm e), c, some (.own (((List.range (i + 1)).map (Sx X Y X.length)).map fr)), some (.imm (.int i)), some (.imm (fr (Sx X Y X.length i))), g']) := by
      have h0 : evS (callN Φ (n + 2)) (.set 5 (.tup (.cons (.lit (.int 0)) (.cons (.lit (.int 1)) (.nil))))) [some (.imm d), some (.imm e), c, some (.own (((List.range i).map (Sx X Y X.length)).map fr)), some (.imm (.int i)), f6, f7] = some (.next, [some (.imm d), some (.imm e), c, some (.own (((List.range i).map (Sx X Y X.length)).map fr)), some (.imm (.int i)), some (.imm (fr (0, 1))), f7]) := by
        simp -implicitDefEqProofs [ll, fr]
      rw [b_cons, h0, Option.bind_some, thenB_next, b_cons, s_loop, hr, Option.bind_some, hin, Option.bind_some, thenB_next]
      simp -implicitDefEqProofs [hl, -List.map_map]
      rw [if_pos (by simpa using hl), List.range_succ, List.map_append, List.map_append]; rfl
    rw [goFor_rng_succ, goFor_go (ρ1 := [some (.imm d), some (.imm e), c, some (.own (((List.range i).map (Sx X Y X.length)).map fr)), some (.imm (.int i)), f6, f7]) (by simp) hset, ih]
    rw [show i + 1 + s = i + (s + 1) by omega]
def mulR (X Y : List Q2) (many : Nat) : List Q2 := (List.range many).map (Sx X Y X.length)
theorem r_product_ok (hdX : Po d X) (hdY : Po e Y) (hX : PB j X) (hY : PB k Y) (j1 : 1 ≤ j) (k1 : 1 ≤ k) (hb : (X.length + 1) * (j + k + 1) + 1 ≤ 4000) (lY : Y.length ≤ 4000) {many : Nat} (hm : many ≤ 100000) : callN Φ (n + 3) 42 [.imm d, .imm e, .imm (.int (many : Nat))] = some (.own ((mulR X Y many).map fr), []) := by
  rw [callN_code h__law_r_product rfl rfl]
  obtain ⟨g5, g6, g7, h⟩ := rprodOuter (n := n) (c := some (.imm (.int (many : Nat)))) hdX hdY hX hY j1 k1 hb lY many 0 none none none (by omega)
  have hr : evG (callN Φ (n + 2)) (.rng1 (.var 2)) [some (.imm d), some (.imm e), some (.imm (.int (many : Nat))), some (.own []), none, none, none] = some (rngD 0 many, [some (.imm d), some (.imm e), some (.imm (.int (many : Nat))), some (.own []), none, none, none]) := g_rng1N (by simp) (by omega)
  rw [Nat.zero_add] at h
  simp -implicitDefEqProofs [i__law_r_product, s_loop, hr, ll, -List.map_map]
  rw [show (some (Ov.own []) : Option Ov) = some (.own (((List.range 0).map (Sx X Y X.length)).map fr)) from rfl]
  erw [h]
  simp [mulR]
/-- both rows trimmed are the same -/
theorem mul_trim : ptrim (mulR X Y (X.length + Y.length)) = ptrim (mulL X Y) := by
  unfold mulR mulL
  by_cases h : X.length + Y.length = 0
  · rw [h]
  · obtain ⟨m, hm⟩ : ∃ m, X.length + Y.length = m + 1 := ⟨X.length + Y.length - 1, by omega⟩
    rw [hm, List.range_succ, List.map_append]
    rw [show m + 1 - 1 = m by omega]
    refine ptrim_zero ?_
    have : Sx X Y X.length m = (0, 1) := Sx_same (a := 0) (by omega) fun t _ ht => by omega
    rw [this]
end
end LW
set_option Elab.async false
set_option linter.all false
set_option maxRecDepth 100000
set_option maxHeartbeats 0
/-! P7: checks that pass, what the package's functions tell of right ones; worths. -/
namespace LW
open PySem PySem.Spec Ev
/-! ### worths: the rationals behind -/
def val (x : Q2) : Rat := mkRat x.1 x.2.natAbs
theorem val_low {a b : Int} (h : 0 < b) : val (low a b) = mkRat a b.natAbs := by
  have n := NR_low (a := a) (b := b) (by omega)
  obtain ⟨h1, h2⟩ := low_mul (a := a) (b := b) (by omega)
  unfold val
  have z1 : (low a b).2.natAbs ≠ 0 := by have := n.1; omega
  rw [Rat.mkRat_eq_iff z1 (by omega)]
  rw [Int.natAbs_of_nonneg (by omega), Int.natAbs_of_nonneg (by have := n.1; omega)]
  have e : (low a b).1 * ((low a b).2 * sg a b) = ((low a b).1 * sg a b) * (low a b).2 := by rw [Int.mul_assoc, Int.mul_comm (sg a b)]
  rw [h1, h2] at e
  exact e
theorem val_inj {x y : Q2} (hx : NR x) (hy : NR y) (h : val x = val y) : x = y := by
  unfold val at h
  have zx : x.2.natAbs ≠ 0 := by have := hx.1; omega
  have zy : y.2.natAbs ≠ 0 := by have := hy.1; omega
  have cx : Nat.Coprime x.1.natAbs x.2.natAbs := hx.2
  have cy : Nat.Coprime y.1.natAbs y.2.natAbs := hy.2
  have e1 : (⟨x.1, x.2.natAbs, zx, cx⟩ : Rat) = mkRat x.1 x.2.natAbs := Rat.mk_eq_mkRat ..
  have e2 : (⟨y.1, y.2.natAbs, zy, cy⟩ : Rat) = mkRat y.1 y.2.natAbs := Rat.mk_eq_mkRat ..
  rw [← e1, ← e2] at h
  injection h with h1 h2
  refine Prod.ext h1 ?_
  have := hx.1
  have := hy.1
  omega
theorem val_add {x y : Q2} (hx : NR x) (hy : NR y) : val (padd x y) = val x + val y := by
  have h1 := hx.1
  have h2 := hy.1
  unfold padd
  rw [val_low (Int.mul_pos h1 h2)]
  unfold val
  rw [Rat.mkRat_add_mkRat _ _ (by omega) (by omega), Int.natAbs_mul]
  rw [Int.natAbs_of_nonneg (by omega), Int.natAbs_of_nonneg (by omega)]
theorem val_mul {x y : Q2} (hx : NR x) (hy : NR y) : val (pmul x y) = val x * val y := by
  have h1 := hx.1
  have h2 := hy.1
  unfold pmul
  rw [val_low (Int.mul_pos h1 h2)]
  unfold val
  rw [Rat.mkRat_mul_mkRat _ _, Int.natAbs_mul]
def horner (r : Q2) : List Q2 → Q2
  | [] => (0, 1)
  | x :: X => padd (pmul (horner r X) r) x
def worth (r : Q2) : List Q2 → Q2 → Q2 → Q2
  | [], w, _ => w
  | x :: X, w, h => worth r X (padd w (pmul x h)) (pmul h r)
theorem NR_horner {r : Q2} (hr : NR r) : ∀ {X : List Q2}, (∀ x ∈ X, NR x) → NR (horner r X)
  | [], _ => NR_01
  | x :: X, h => NR_padd (NR_pmul (NR_horner hr fun y hy => h y (List.mem_cons_of_mem _ hy)).dz hr.dz).dz (h x List.mem_cons_self).dz
theorem NR_11 : NR (1, 1) := ⟨by decide, by decide⟩
theorem worth_eq {r : Q2} (hr : NR r) : ∀ {X : List Q2} {w h : Q2}, (∀ x ∈ X, NR x) → NR w → NR h → NR (worth r X w h) ∧ val (worth r X w h) = val w + val (horner r X) * val h
  | [], w, h, _, nw, nh => by
    refine ⟨nw, ?_⟩
    show val w = val w + val (0, 1) * val h
    have : val (0, 1) = 0 := by decide
    rw [this, Rat.zero_mul, Rat.add_zero]
  | x :: X, w, h, hx, nw, nh => by
    have nx := hx x List.mem_cons_self
    have hX : ∀ y ∈ X, NR y := fun y hy => hx y (List.mem_cons_of_mem _ hy)
    have nH := NR_horner hr hX
    have n1 := NR_pmul nx.dz nh.dz
    have n2 := NR_pmul nh.dz hr.dz
    have n3 := NR_pmul nH.dz hr.dz
    obtain ⟨n, e⟩ := worth_eq hr hX (NR_padd nw.dz n1.dz) n2
    refine ⟨n, ?_⟩
    show val (worth r X (padd w (pmul x h)) (pmul h r)) = _
    rw [e, val_add nw n1, val_mul nx nh, val_mul nh hr, horner, val_add n3 nx, val_mul nH hr]
    rw [Rat.add_mul, Rat.add_assoc, Rat.add_comm (val x * val h), Rat.mul_assoc, Rat.mul_comm (val h)]
theorem worth_horner {r : Q2} (hr : NR r) {X : List Q2} (hX : ∀ x ∈ X, NR x) : worth r X (0, 1) (1, 1) = horner r X := by
  obtain ⟨n, e⟩ := worth_eq hr hX NR_01 NR_11
  refine val_inj n (NR_horner hr hX) ?_
  rw [e]
  have h0 : val (0, 1) = 0 := by decide
  have h1 : val (1, 1) = 1 := by decide
  rw [h0, h1, Rat.zero_add, Rat.mul_one]
theorem Bd_horner {r : Q2} {j k : Nat} (hr : NR r) (br : Bd j r) : ∀ {X : List Q2}, PB k X → Bd (X.length * (j + k + 1) + 1) (horner r X)
  | [], _ => Bd_01 (by omega)
  | x :: X, h => by
    have hX : PB k X := fun y hy => h y (List.mem_cons_of_mem _ hy)
    have nX : ∀ y ∈ X, NR y := fun y hy => (hX y hy).1
    have nH := NR_horner hr nX
    have := Bd_padd (NR_pmul nH.dz hr.dz).dz (h x List.mem_cons_self).1.dz (Bd_pmul nH.dz hr.dz (Bd_horner hr br hX) br) (h x List.mem_cons_self).2
    refine this.mono ?_
    rw [List.length_cons, Nat.add_mul]; omega
/-! ### checks that pass -/
section
variable {n j k : Nat} {d e : PyData} {X Y : List Q2}
theorem check_ratios_ok {ds : List PyData} (h : ds.all ratD = true) : callN Φ (n + 3) 9 [.imm (.list ds)] = some (.imm .none, []) := by
  rw [callN_code h_check_ratios rfl rfl]
  have : ∀ (es : List PyData) (a : Option Ov), es.all ratD = true → ∃ b, goFor [1] (evSs (callN Φ (n + 2)) (.cons (.ite (.not (.val (.call 4 (.cons (.var 1) (.nil))))) (.cons (.nope) (.nil)) (.nil)) (.nil))) es [some (.imm (.list ds)), a] = some (.next, [some (.imm (.list ds)), b]) := by
    intro es
    induction es with
    | nil => intro a _; exact ⟨a, goFor_nil⟩
    | cons x es ih =>
      intro a hx
      rw [List.all_cons, Bool.and_eq_true] at hx
      obtain ⟨b, hb⟩ := ih (some (.imm x)) hx.2
      exact ⟨b, by rw [goFor_go (ρ1 := [some (.imm (.list ds)), some (.imm x)]) (ρ2 := [some (.imm (.list ds)), some (.imm x)]) (by simp) (by simp [hx.1]), hb]⟩
  obtain ⟨b, hb⟩ := this ds none h
  simp [i_check_ratios, s_loop, hb]
theorem check_polys_ok {ds : List PyData} (h : ds.all polyD = true) : callN Φ (n + 4) 21 [.imm (.list ds)] = some (.imm .none, []) := by
  rw [callN_code h_check_polys rfl rfl]
  have : ∀ (es : List PyData) (a : Option Ov), es.all polyD = true → ∃ b, goFor [1] (evSs (callN Φ (n + 3)) (.cons (.ite (.not (.val (.call 14 (.cons (.var 1) (.nil))))) (.cons (.nope) (.nil)) (.nil)) (.nil))) es [some (.imm (.list ds)), a] = some (.next, [some (.imm (.list ds)), b]) := by
    intro es
    induction es with
    | nil => intro a _; exact ⟨a, goFor_nil⟩
    | cons x es ih =>
      intro a hx
      rw [List.all_cons, Bool.and_eq_true] at hx
      obtain ⟨b, hb⟩ := ih (some (.imm x)) hx.2
      exact ⟨b, by rw [goFor_go (ρ1 := [some (.imm (.list ds)), some (.imm x)]) (ρ2 := [some (.imm (.list ds)), some (.imm x)]) (by simp) (by simp [hx.1]), hb]⟩
  obtain ⟨b, hb⟩ := this ds none h
  simp [i_check_polys, s_loop, hb]
theorem two_ok {p : PyData → Bool} (h1 : p d = true) (h2 : p e = true) : [d, e].all p = true := by simp [h1, h2]
variable {x y : Q2}
theorem ratio_sum_ok (hd : Fr d x) (he : Fr e y) (nx : NR x) (ny : NR y) (bx : Bd j x) (by' : Bd k y) (hj : j ≤ 4000) (hk : k ≤ 4000) : callN Φ (n + 4) 10 [.imm d, .imm e] = some (.imm (fr (padd x y)), []) := by
  rw [callN_code h_ratio_sum rfl rfl]
  have hc := check_ratios_ok (n := n) (two_ok (fr_ratD hd nx) (fr_ratD he ny))
  have hp := plus_ok (n := n) hd he nx.dz ny.dz bx by' hj hk
  simp -implicitDefEqProofs [i_ratio_sum, ll, hc, hp]
theorem ratio_less_ok (hd : Fr d x) (he : Fr e y) (nx : NR x) (ny : NR y) (bx : Bd j x) (by' : Bd k y) (hj : j ≤ 4000) (hk : k ≤ 4000) : callN Φ (n + 4) 11 [.imm d, .imm e] = some (.imm (fr (psub x y)), []) := by
  rw [callN_code h_ratio_less rfl rfl]
  have hc := check_ratios_ok (n := n) (two_ok (fr_ratD hd nx) (fr_ratD he ny))
  have hp := minus_ok (n := n) hd he nx.dz ny.dz bx by' hj hk
  simp -implicitDefEqProofs [i_ratio_less, ll, hc, hp]
theorem ratio_times_ok (hd : Fr d x) (he : Fr e y) (nx : NR x) (ny : NR y) (bx : Bd j x) (by' : Bd k y) (hj : j ≤ 4000) (hk : k ≤ 4000) : callN Φ (n + 4) 12 [.imm d, .imm e] = some (.imm (fr (pmul x y)), []) := by
  rw [callN_code h_ratio_times rfl rfl]
  have hc := check_ratios_ok (n := n) (two_ok (fr_ratD hd nx) (fr_ratD he ny))
  have hp := multiplied_ok (n := n) hd he nx.dz ny.dz bx by' hj hk
  simp -implicitDefEqProofs [i_ratio_times, ll, hc, hp]
theorem ratio_over_ok (hd : Fr d x) (he : Fr e y) (nx : NR x) (ny : NR y) (hz : y.1 ≠ 0) (bx : Bd j x) (by' : Bd k y) (hj : j ≤ 4000) (hk : k ≤ 4000) : callN Φ (n + 4) 13 [.imm d, .imm e] = some (.imm (fr (pdiv x y)), []) := by
  rw [callN_code h_ratio_over rfl rfl]
  have hc := check_ratios_ok (n := n) (two_ok (fr_ratD hd nx) (fr_ratD he ny))
  have hp := divided_ok (n := n) hd he nx.dz hz bx by' hj hk
  simp -implicitDefEqProofs [i_ratio_over, ll, hc, hp, he.i0, hz]
/-- a right polynomial -/
theorem Po.polyD (hd : Po d X) (hX : ∀ x ∈ X, NR x) (ht : ptrim X = X) (hl : X.length ≤ 100) : LW.polyD d = true := by
  obtain ⟨ds, hs, ha⟩ := hd
  unfold LW.polyD
  rw [hs]
  show polyL ds = true
  have hr : ds.all ratD = true := List.all_eq_true.mpr fun d hd => by
    obtain ⟨x, hx, q⟩ := ha.mem hd
    exact fr_ratD q (hX x hx)
  have hl' : ds.length ≤ 100 := by rw [ha.len]; exact hl
  rcases last_ok hr hl' with ⟨rfl, q⟩ | ⟨e, x, h1, h2, h3, h4⟩
  · exact q
  · rw [h4, decide_eq_true_eq]
    have : ∃ y, X.getLast? = some y ∧ Fr e y := by
      rw [List.getLast?_eq_getElem?] at h1 ⊢
      have hlt := (List.getElem?_eq_some_iff.mp h1).1
      obtain ⟨y, hy⟩ : ∃ y, X[X.length - 1]? = some y := ⟨_, List.getElem?_eq_getElem (by rw [← ha.len]; omega)⟩
      obtain ⟨e', h5, h6⟩ := ha.get hy
      rw [← ha.len, h1] at h5
      cases h5
      exact ⟨y, hy, h6⟩
    obtain ⟨y, hy, q⟩ := this
    have hxy : x.1 = y.1 := by
      have := h2.i0
      rw [q.i0] at this
      injection this with this
      injection this with this
      exact this.symm
    rw [hxy]
    rw [← ht] at hy
    exact ptrim_ne hy
theorem poly_sum_ok (hd : Po d X) (he : Po e Y) (hX : PB j X) (hY : PB k Y) (tX : ptrim X = X) (tY : ptrim Y = Y) (j1 : 1 ≤ j) (k1 : 1 ≤ k) (hj : j ≤ 4000) (hk : k ≤ 4000) (lX : X.length ≤ 100) (lY : Y.length ≤ 100) : callN Φ (n + 5) 22 [.imm d, .imm e] = some (.own ((ptrim (addL X Y)).map fr), []) := by
  rw [callN_code h_poly_sum rfl rfl]
  have hc := check_polys_ok (n := n) (two_ok (hd.polyD (fun x hx => (hX x hx).1) tX lX) (he.polyD (fun x hx => (hY x hx).1) tY lY))
  have hp := poly_plus_ok (n := n) hd he hX hY j1 k1 hj hk (by omega) (by omega)
  simp -implicitDefEqProofs [i_poly_sum, ll, hc, hp]
theorem poly_less_ok (hd : Po d X) (he : Po e Y) (hX : PB j X) (hY : PB k Y) (tX : ptrim X = X) (tY : ptrim Y = Y) (j1 : 1 ≤ j) (k1 : 1 ≤ k) (hj : j ≤ 4000) (hk : k ≤ 4000) (lX : X.length ≤ 100) (lY : Y.length ≤ 100) : callN Φ (n + 5) 23 [.imm d, .imm e] = some (.own ((ptrim (subL X Y)).map fr), []) := by
  rw [callN_code h_poly_less rfl rfl]
  have hc := check_polys_ok (n := n) (two_ok (hd.polyD (fun x hx => (hX x hx).1) tX lX) (he.polyD (fun x hx => (hY x hx).1) tY lY))
  have hp := poly_minus_ok (n := n) hd he hX hY j1 k1 hj hk (by omega) (by omega)
  simp -implicitDefEqProofs [i_poly_less, ll, hc, hp]
theorem poly_times_ok (hd : Po d X) (he : Po e Y) (hX : PB j X) (hY : PB k Y) (tX : ptrim X = X) (tY : ptrim Y = Y) (j1 : 1 ≤ j) (k1 : 1 ≤ k) (hb : (X.length + 1) * (j + k + 1) + 1 ≤ 4000) (lX : X.length ≤ 100) (lY : Y.length ≤ 100) : callN Φ (n + 5) 24 [.imm d, .imm e] = some (.own ((ptrim (mulL X Y)).map fr), []) := by
  rw [callN_code h_poly_times rfl rfl]
  have hc := check_polys_ok (n := n) (two_ok (hd.polyD (fun x hx => (hX x hx).1) tX lX) (he.polyD (fun x hx => (hY x hx).1) tY lY))
  have hp := poly_product_ok (n := n) hd he hX hY j1 k1 hb (by omega)
  simp -implicitDefEqProofs [i_poly_times, ll, hc, hp]
theorem poly_derived_ok (hd : Po d X) (hX : PB k X) (tX : ptrim X = X) (hk : k ≤ 4000) (lX : X.length ≤ 100) : callN Φ (n + 5) 25 [.imm d] = some (.own ((ptrim (derL X)).map fr), []) := by
  rw [callN_code h_poly_derived rfl rfl]
  have hc := check_polys_ok (n := n) (ds := [d]) (by simp [hd.polyD (fun x hx => (hX x hx).1) tX lX])
  have hp := derived_ok (n := n) hd hX hk (by omega)
  simp -implicitDefEqProofs [i_poly_derived, ll, hc, hp]
theorem horner_snoc (r x : Q2) (X : List Q2) : horner r (x :: X) = padd (pmul (horner r X) r) x := rfl
theorem hornerLoop (hr : Fr e y) (nr : NR y) (br : Bd j y) : ∀ {es : List PyData} {X2 : List Q2} {Z : List Q2} {f : Option Ov}, All2 Fr es X2 → PB k (X2.reverse ++ Z) → ((X2.length + Z.length) * (j + k + 1) + 1 ≤ 2000) → k ≤ 2000 →
    ∃ g, goFor [3] (evSs (callN Φ (n + 3)) (.cons (.set 2 (.call 5 (.cons (.call 7 (.cons (.var 2) (.cons (.var 1) (.nil)))) (.cons (.var 3) (.nil))))) (.nil))) es [some (.imm d), some (.imm e), some (.imm (fr (horner y Z))), f] = some (.next, [some (.imm d), some (.imm e), some (.imm (fr (horner y (X2.reverse ++ Z)))), g]) := by
  intro es X2 Z f q
  induction q generalizing Z f with
  | nil => intro _ _ _; exact ⟨f, goFor_nil⟩
  | @cons u x es X2 hu q ih =>
    intro hP hL hk
    have e1 : (x :: X2).reverse ++ Z = X2.reverse ++ (x :: Z) := by simp
    rw [e1] at hP ⊢
    rw [List.length_cons] at hL
    obtain ⟨g, ih⟩ := ih (Z := x :: Z) (f := some (.imm u)) hP (by rw [List.length_cons, show X2.length + (Z.length + 1) = X2.length + 1 + Z.length by omega]; exact hL) hk
    have pZ : PB k Z := fun z hz => hP z (by simp [hz])
    obtain ⟨nx, bx⟩ := hP x (by simp)
    have nH := NR_horner nr fun z hz => (pZ z hz).1
    have bH := Bd_horner nr br pZ
    have hz : Z.length * (j + k + 1) + 1 ≤ 2000 := Nat.le_trans (Nat.add_le_add_right (Nat.mul_le_mul_right _ (by omega)) 1) hL
    have hj : j ≤ 2000 := by
      have : 1 * (j + k + 1) ≤ (X2.length + 1 + Z.length) * (j + k + 1) := Nat.mul_le_mul_right _ (by omega)
      omega
    have hm := multiplied_ok (n := n) (d := fr (horner y Z)) .t hr nH.dz nr.dz bH br (by omega) (by omega)
    have ha := plus_ok (n := n) (d := fr (pmul (horner y Z) y)) .t hu (NR_pmul nH.dz nr.dz).dz nx.dz (Bd_pmul nH.dz nr.dz bH br) bx (by omega) (by omega)
    refine ⟨g, ?_⟩
    rw [goFor_go (ρ1 := [some (.imm d), some (.imm e), some (.imm (fr (horner y Z))), some (.imm u)]) (ρ2 := [some (.imm d), some (.imm e), some (.imm (fr (horner y (x :: Z)))), some (.imm u)]) (by simp) (by simp -implicitDefEqProofs [hm, ha, horner]), ih]
theorem poly_at_ok (hd : Po d X) (hr : Fr e y) (hX : PB k X) (nr : NR y) (br : Bd j y) (tX : ptrim X = X) (hL : X.length * (j + k + 1) + 1 ≤ 2000) (hk : k ≤ 2000) (lX : X.length ≤ 100) : callN Φ (n + 5) 26 [.imm d, .imm e] = some (.imm (fr (horner y X)), []) := by
  rw [callN_code h_poly_at rfl rfl]
  have hc := check_polys_ok (n := n) (ds := [d]) (by simp [hd.polyD (fun x hx => (hX x hx).1) tX lX])
  have hc2 := check_ratios_ok (n := n + 1) (ds := [e]) (by simp [fr_ratD hr nr])
  obtain ⟨ds, hs, ha⟩ := id hd
  have hf : fnD .list [d] = some (.own ds) := by cases d <;> simp [seqOf] at hs <;> subst hs <;> rfl
  obtain ⟨g, hl⟩ := hornerLoop (n := n + 1) (d := d) (k := k) (Z := []) (f := none) hr nr br ha.rev (by rw [List.reverse_reverse, List.append_nil]; exact hX) (by simpa using hL) hk
  rw [List.reverse_reverse, List.append_nil] at hl
  have h0 : (fr (horner y [])) = c_NONE := rfl
  rw [h0] at hl
  simp -implicitDefEqProofs [i_poly_at, ll, hc, hc2, s_loop, hf, hl]
end
end LW
set_option Elab.async false
set_option linter.all false
set_option maxRecDepth 100000
set_option maxHeartbeats 0
/-! P8: the law's draws. -/
namespace LW
open PySem PySem.Spec Ev
/-- a spring that at most K numbers were drawn from -/
def Spr (K : Nat) (l : List PyData) : Prop := ∃ (x y : Int) (z : Nat), l = [.int x, .int y, .int z] ∧ 0 ≤ y ∧ y < 2147483648 ∧ z ≤ K
theorem Spr.mono {j k : Nat} {l : List PyData} (h : Spr j l) (hk : j ≤ k) : Spr k l := let ⟨x, y, z, a, b, c, d⟩ := h; ⟨x, y, z, a, b, c, by omega⟩
theorem put0 {x y z w : PyData} : [x, y, z].set 0 w = [w, y, z] := rfl
theorem put2 {x y z w : PyData} : [x, y, z].set 2 w = [x, y, w] := rfl
theorem ix3_0 : ixN 3 0 = some 0 := by decide
theorem ix3_2 : ixN 3 2 = some 2 := by decide
theorem powOk3 {i : Int} (h : i.natAbs < 2 ^ 64) : powOk i 3 = true := by
  unfold powOk
  rw [Bool.and_eq_true, Bool.and_eq_true, decide_eq_true_eq, decide_eq_true_eq, decide_eq_true_eq]
  exact ⟨⟨by decide, by decide⟩, h⟩
theorem divOk_of {j : Int} {k : Nat} (h : 0 < j) (hb : j.natAbs < 2 ^ k) (hk : k ≤ 9000) : divOk j = true := by
  unfold divOk
  rw [Bool.and_eq_true, decide_eq_true_eq, decide_eq_true_eq]
  refine ⟨by omega, ?_⟩
  by_cases z : k = 0
  · subst z; simp at hb; omega
  · exact Nat.lt_of_lt_of_le (log_lt (by omega) hb) hk
theorem mulOk64 {i j : Int} (h : i.natAbs < 2 ^ 64) (h' : j.natAbs < 2 ^ 64) : mulOk i j = true := mulOk_of h h' (by decide) (by decide)
theorem p64 : (2 : Nat) ^ 64 = 18446744073709551616 := by decide
theorem draw_ok {n K k : Nat} {l : List PyData} {m : Int} (h : Spr K l) (hK : K ≤ 1000000000) (hm : 0 < m) (hb : m.natAbs < 2 ^ k) (hk : k ≤ 9000) :
    ∃ (t : Int) (l' : List PyData), callN Φ (n + 1) 27 [.own l, .imm (.int m)] = some (.imm (.int t), [l']) ∧ 0 ≤ t ∧ t < m ∧ Spr (K + 1) l' := by
  obtain ⟨x, y, z, rfl, y0, y1, zK⟩ := h
  have dm := divOk_of hm hb hk
  have m0 : m ≠ 0 := by omega
  by_cases hx : 0 < x
  · refine ⟨x.fmod m, _, ?_, Int.fmod_nonneg_of_pos _ hm, Int.fmod_lt_of_pos _ hm, x.fdiv m, y, z, rfl, y0, y1, by omega⟩
    rw [callN_code h__law_draw rfl rfl]
    simp -implicitDefEqProofs [i__law_draw, hx, m0, dm, ix3_0]
  · have e1 : mulOk 6364137 ((z : Int) + 1) = true := mulOk64 (by rw [p64]; omega) (by rw [p64]; omega)
    have q1 : ((y + 6364137 * ((z : Int) + 1) + 1442695) : Int).natAbs < 2 ^ 64 := by rw [p64]; omega
    have e2 := powOk3 q1
    obtain ⟨a, ha⟩ : ∃ a, a = ((y + 6364137 * ((z : Int) + 1) + 1442695) ^ 3 : Int).fmod 2147483647 := ⟨_, rfl⟩
    have a0 : 0 ≤ a := by rw [ha]; exact Int.fmod_nonneg_of_pos _ (by decide)
    have a1 : a < 2147483647 := by rw [ha]; exact Int.fmod_lt_of_pos _ (by decide)
    have e3 : mulOk a 48271 = true := mulOk64 (by rw [p64]; omega) (by rw [p64]; omega)
    have e4 : mulOk 11 ((z : Int) + 1) = true := mulOk64 (by rw [p64]; omega) (by rw [p64]; omega)
    have q2 : ((a * 48271 + 11 * ((z : Int) + 1)) : Int).natAbs < 2 ^ 64 := by rw [p64]; omega
    have e5 := powOk3 q2
    have d8 : divOk 8 = true := divOk_of (k := 4) (by decide) (by decide) (by decide)
    refine ⟨((((a * 48271 + 11 * ((z : Int) + 1)) ^ 3 : Int).fmod 2147483629).fdiv 8).fmod m, [.int x, .int y, .int ((z + 1 : Nat) : Int)], ?_, Int.fmod_nonneg_of_pos _ hm, Int.fmod_lt_of_pos _ hm, x, y, z + 1, rfl, y0, y1, by omega⟩
    rw [callN_code h__law_draw rfl rfl]
    have ha' : (((y + 6364137 * ((z : Int) + 1) + 1442695) ^ (3 : Int).toNat : Int)).fmod 2147483647 = a := by rw [ha]; rfl
    simp -implicitDefEqProofs [i__law_draw, hx, m0, ix3_2, e1, e2, ← ha, e3, e4, e5, d8]
theorem pick_ok {n K : Nat} {l : List PyData} {d : PyData} {xs : List PyData} (h : Spr K l) (hK : K ≤ 1000000000) (hd : seqOf d = some xs) (h0 : xs ≠ []) (hl : xs.length ≤ 1000000000) :
    ∃ (x : PyData) (l' : List PyData), callN Φ (n + 2) 28 [.own l, .imm d] = some (.imm x, [l']) ∧ x ∈ xs ∧ Spr (K + 1) l' := by
  have hp : 0 < xs.length := List.length_pos_iff.mpr h0
  obtain ⟨t, l', e, t0, t1, s⟩ := draw_ok (n := n) (k := 40) (m := (xs.length : Int)) h hK (by omega) (by show (xs.length : Int).natAbs < 1099511627776; omega) (by decide)
  obtain ⟨i, rfl⟩ := Int.eq_ofNat_of_zero_le t0
  have hi : i < xs.length := by omega
  refine ⟨xs[i], l', ?_, List.getElem_mem _, s⟩
  rw [callN_code h__law_pick rfl rfl]
  simp -implicitDefEqProofs [i__law_pick, fnD_len hd, e, idxD_seq hd, List.getElem?_eq_getElem hi]
end LW
set_option Elab.async false
set_option linter.all false
set_option maxRecDepth 100000
set_option maxHeartbeats 0
/-! P9: drawn fractions and polynomials; loosened things. -/
namespace LW
open PySem PySem.Spec Ev
theorem r_drawn_ok {n K k : Nat} {l : List PyData} {m : Int} (h : Spr K l) (hK : K ≤ 900000000) (hm : 0 < m) (hb : m.natAbs < 2 ^ k) (k1 : 1 ≤ k) (hk : k ≤ 8000) :
    ∃ (x : Q2) (l' : List PyData), callN Φ (n + 3) 38 [.own l, .imm (.int m)] = some (.imm (fr x), [l']) ∧ NR x ∧ Bd k x ∧ Spr (K + 3) l' := by
  have mm : mulOk 2 m = true := mulOk_of (a := 2) (b := k) (by decide) hb (by omega) (by omega)
  have b2 : (2 * m + 1).natAbs < 2 ^ (k + 2) := by rw [Nat.pow_succ, Nat.pow_succ]; omega
  obtain ⟨t, l1, e1, t0, t1, s1⟩ := draw_ok (n := n + 1) (m := 2 * m + 1) h (by omega) (by omega) b2 (by omega)
  obtain ⟨u, l2, e2, hu, s2⟩ := pick_ok (n := n) (d := .list [.int 1, .int 1, .int m]) s1 (by omega) rfl (by simp) (by simp)
  obtain ⟨q, rfl, q0, qm⟩ : ∃ q : Int, u = .int q ∧ 0 < q ∧ q ≤ m := by
    simp at hu
    rcases hu with rfl | rfl
    · exact ⟨1, rfl, by decide, by omega⟩
    · exact ⟨m, rfl, hm, by omega⟩
  have bq : q.natAbs < 2 ^ k := by omega
  obtain ⟨v, l3, e3, v0, v1, s3⟩ := draw_ok (n := n + 1) (m := q) s2 (by omega) q0 bq (by omega)
  have z : (1 + v : Int) ≠ 0 := by omega
  have bz : (1 + v : Int).natAbs < 2 ^ k := by omega
  have bt : (t - m).natAbs < 2 ^ k := by omega
  have el := rlow_ok (n := n + 1) (a := t - m) z bz (by omega)
  refine ⟨low (t - m) (1 + v), l3, ?_, NR_low z, Bd_low z bt bz, s3⟩
  rw [callN_code h__law_r_drawn rfl rfl]
  simp -implicitDefEqProofs [i__law_r_drawn, mm, e1, e2, e3, el, ll]
theorem n_poly_ok {n K : Nat} {l : List PyData} (h : Spr K l) (hK : K ≤ 800000000) :
    ∃ (X : List Q2) (l' : List PyData), callN Φ (n + 4) 43 [.own l] = some (.own (X.map fr), [l']) ∧ PB 4 X ∧ ptrim X = X ∧ X.length ≤ 8 ∧ Spr (K + 40) l' := by
  obtain ⟨t, l1, e1, t0, t1, s1⟩ := draw_ok (n := n + 2) (m := 9) (k := 4) h (by omega) (by decide) (by decide) (by decide)
  obtain ⟨c, rfl⟩ := Int.eq_ofNat_of_zero_le t0
  have key : ∀ (s : Nat) (i : Int) (K : Nat) (l : List PyData), Spr K l → K + 4 * s ≤ 850000000 → s ≤ 8 → ∃ (X : List Q2) (l' : List PyData), goLc [1] (evT (callN Φ (n + 3)) .tt) (ev (callN Φ (n + 3)) (.call 38 (.ref 0 (.cons (.call 28 (.ref 0 (.cons (.lst (.cons (.lit (.int 1)) (.cons (.lit (.int 3)) (.cons (.lit (.int 9)) (.nil))))) (.nil)))) (.nil))))) ((List.range s).map fun (a : Nat) => .int (i + a)) [some (.own l), none] = some (X.map fr, [some (.own l'), none]) ∧ X.length = s ∧ PB 4 X ∧ Spr (K + 4 * s) l' := by
    intro s
    induction s with
    | zero => intro i K l h _ _; exact ⟨[], l, goLc_nil, rfl, show PB 4 [] from (fun x hx => nomatch hx), h⟩
    | succ s ih =>
      intro i K l h hK hs
      obtain ⟨u, l1, e1, hu, s1⟩ := pick_ok (n := n + 1) (d := .list [.int 1, .int 3, .int 9]) h (by omega) rfl (by simp) (by simp)
      obtain ⟨q, rfl, q0, q9⟩ : ∃ q : Int, u = .int q ∧ 0 < q ∧ q ≤ 9 := by
        simp at hu
        rcases hu with rfl | rfl | rfl
        · exact ⟨1, rfl, by decide, by decide⟩
        · exact ⟨3, rfl, by decide, by decide⟩
        · exact ⟨9, rfl, by decide, by decide⟩
      obtain ⟨x, l2, e2, nx, bx, s2⟩ := r_drawn_ok (n := n) (m := q) (k := 4) s1 (by omega) q0 (by show q.natAbs < 16; omega) (by decide) (by decide)
      obtain ⟨X, l3, e3, hl, hX, s3⟩ := ih (i + 1) _ l2 s2 (by omega) (by omega)
      refine ⟨x :: X, l3, ?_, by rw [List.length_cons, hl], fun y hy => ?_, s3.mono (by omega)⟩
      · rw [List.range_succ_eq_map, List.map_cons, List.map_map]
        rw [goLc_go (ρ1 := [some (.own l), some (.imm (.int (i + (0 : Nat))))]) (ρ2 := [some (.own l), some (.imm (.int (i + (0 : Nat))))]) (ρ3 := [some (.own l2), some (.imm (.int (i + (0 : Nat))))]) (o := .imm (fr x)) (by simp) (by simp) (by simp -implicitDefEqProofs [e1, e2, ll])]
        have : ((List.range s).map ((fun (a : Nat) => PyData.int (i + a)) ∘ Nat.succ)) = (List.range s).map fun (a : Nat) => PyData.int (i + 1 + a) := by
          refine List.map_congr_left fun a _ => ?_
          show PyData.int _ = PyData.int _
          congr 1
          simp; omega
        rw [this]
        simp [e3]
      · rcases List.mem_cons.mp hy with rfl | hy
        · exact ⟨nx, bx⟩
        · exact hX y hy
  obtain ⟨X, l2, e2, hl, hX, s2⟩ := key c 0 _ l1 s1 (by omega) (by omega)
  have hr : evG (callN Φ (n + 3)) (.rng1 (.call 27 (.ref 0 (.cons (.lit (.int 9)) (.nil))))) [some (.own l), none] = some (rngD 0 c, [some (.own l1), none]) := g_rng1N (by simp -implicitDefEqProofs [e1]) (by omega)
  have e2' : goLc [1] (evT (callN Φ (n + 3)) .tt) (ev (callN Φ (n + 3)) (.call 38 (.ref 0 (.cons (.call 28 (.ref 0 (.cons (.lst (.cons (.lit (.int 1)) (.cons (.lit (.int 3)) (.cons (.lit (.int 9)) (.nil))))) (.nil)))) (.nil))))) (rngD 0 c) [some (.own l1), none] = some (X.map fr, [some (.own l2), none]) := e2
  have ht := r_trimmed_ok (n := n + 2) (Po.l X)
  refine ⟨ptrim X, l2, ?_, hX.trim, ?_, by have := ptrim_len (X := X); omega, s2.mono (by omega)⟩
  · rw [callN_code h__law_n_poly rfl rfl]
    simp -implicitDefEqProofs [i__law_n_poly, e_lc, hr, e2', backE_non, ht]
  · exact ptrim_id fun x hx => ptrim_ne hx
/-! ### loosened -/
mutual
/-- no dict within -/
def nd : PyData → Bool
  | .none | .bool _ | .int _ | .str _ => true
  | .list xs | .tuple xs => ndA xs
  | .dict _ => false
def ndA : List PyData → Bool
  | [] => true
  | x :: xs => nd x && ndA xs
/-- the lists and tuples within -/
def cnt : PyData → Nat
  | .list xs | .tuple xs => cntA xs + 1
  | _ => 0
def cntA : List PyData → Nat
  | [] => 0
  | x :: xs => cnt x + cntA xs
/-- how deep -/
def dep : PyData → Nat
  | .list xs | .tuple xs => depA xs + 1
  | _ => 0
def depA : List PyData → Nat
  | [] => 0
  | x :: xs => max (dep x) (depA xs)
end
mutual
inductive Ls : PyData → PyData → Prop
  | atom {d : PyData} : isSeq d = false → Ls d d
  | seq {d d' : PyData} {xs ys : List PyData} : seqOf d = some xs → seqOf d' = some ys → LsA xs ys → Ls d d'
inductive LsA : List PyData → List PyData → Prop
  | nil : LsA [] []
  | cons {x y xs ys} : Ls x y → LsA xs ys → LsA (x :: xs) (y :: ys)
end
theorem seq_dep {d : PyData} {xs : List PyData} (h : seqOf d = some xs) : dep d = depA xs + 1 ∧ cnt d = cntA xs + 1 ∧ nd d = ndA xs := by
  cases d <;> first | (cases h; exact ⟨rfl, rfl, rfl⟩) | cases h
theorem isi_dict {d : PyData} (h : nd d = true) : isiD d ["dict"] = false := by cases d <;> first | rfl | cases h
theorem loose_ok : ∀ (D n K : Nat) (l : List PyData) (d : PyData), Spr K l → nd d = true → dep d ≤ D → K + cnt d ≤ 1000000000 → ∃ (d' : PyData) (l' : List PyData), callN Φ (n + D + 1) 31 [.own l, .imm d] = some (.imm d', [l']) ∧ Ls d d' ∧ Spr (K + cnt d) l'
  | D, n, K, l, d, h, hn, hd, hK => by
    have hdi := isi_dict hn
    cases hs : seqOf d with
    | none =>
      have hz : cnt d = 0 := by cases d <;> first | rfl | cases hs
      have hi : isSeq d = false := by rw [seqOf_isSeq, hs]; rfl
      refine ⟨d, l, ?_, .atom hi, h.mono (by omega)⟩
      rw [callN_code h__law_loose rfl rfl]
      simp [i__law_loose, hdi, isSeq_eq, hi]
    | some xs =>
      obtain ⟨h1, h2, h3⟩ := seq_dep hs
      match D with
      | 0 => omega
      | D + 1 =>
        have hi : isSeq d = true := by rw [seqOf_isSeq, hs]; rfl
        have key : ∀ (xs : List PyData) (K : Nat) (l : List PyData), Spr K l → ndA xs = true → depA xs ≤ D → K + cntA xs ≤ 1000000000 → ∃ (ys l' : List PyData), goLc [4] (evT (callN Φ (n + D + 1)) .tt) (ev (callN Φ (n + D + 1)) (.call 31 (.ref 0 (.cons (.var 4) (.nil))))) xs [some (.own l), some (.imm d), none, none, none] = some (ys, [some (.own l'), some (.imm d), none, none, none]) ∧ LsA xs ys ∧ Spr (K + cntA xs) l' := by
          intro xs
          induction xs with
          | nil => intro K l h _ _ _; exact ⟨[], l, goLc_nil, .nil, h⟩
          | cons x xs ih =>
            intro K l h hn hd hK
            simp only [ndA, Bool.and_eq_true, depA, cntA] at hn hd hK
            obtain ⟨y, l1, e1, q1, s1⟩ := loose_ok D n K l x h hn.1 (by omega) (by omega)
            obtain ⟨ys, l2, e2, q2, s2⟩ := ih (K + cnt x) l1 s1 hn.2 (by omega) (by omega)
            refine ⟨y :: ys, l2, ?_, .cons q1 q2, s2.mono (by simp only [cntA]; omega)⟩
            rw [goLc_go (ρ1 := [some (.own l), some (.imm d), none, none, some (.imm x)]) (ρ2 := [some (.own l), some (.imm d), none, none, some (.imm x)]) (ρ3 := [some (.own l1), some (.imm d), none, none, some (.imm x)]) (o := .imm y) (by simp) (by simp) (by simp -implicitDefEqProofs [e1])]
            simp [e2]
        obtain ⟨ys, l1, e1, q1, s1⟩ := key xs K l h (by rw [← h3]; exact hn) (by omega) (by omega)
        obtain ⟨t, l2, e2, t0, t1, s2⟩ := draw_ok (n := n + D) (m := 2) (k := 2) s1 (by omega) (by decide) (by decide) (by decide)
        have hb : backE [some (.own l), some (.imm d), none, none, none] [4] [some (.own l1), some (.imm d), none, none, none] = [some (.own l1), some (.imm d), none, none, none] := rfl
        by_cases z : 0 < t
        · refine ⟨.list ys, l2, ?_, .seq hs rfl q1, s2.mono (by omega)⟩
          rw [show n + (D + 1) + 1 = n + D + 1 + 1 by omega, callN_code h__law_loose rfl rfl]
          simp -implicitDefEqProofs [i__law_loose, hdi, isSeq_eq, hi, e_lc, hs, e1, hb, e2, z]
        · refine ⟨.tuple ys, l2, ?_, .seq hs rfl q1, s2.mono (by omega)⟩
          rw [show n + (D + 1) + 1 = n + D + 1 + 1 by omega, callN_code h__law_loose rfl rfl]
          simp -implicitDefEqProofs [i__law_loose, hdi, isSeq_eq, hi, e_lc, hs, e1, hb, e2, z]
theorem Ls.int {i : Int} {d : PyData} (h : Ls (.int i) d) : d = .int i := by
  cases h with
  | atom _ => rfl
  | seq h _ _ => cases h
theorem LsA.two {p q : Int} {ys : List PyData} (h : LsA [.int p, .int q] ys) : ys = [.int p, .int q] := by
  cases h with
  | cons h1 h =>
    cases h with
    | cons h2 h =>
      cases h
      rw [h1.int, h2.int]
theorem Ls.fr {x : Q2} {d : PyData} (h : Ls (fr x) d) : Fr d x := by
  cases h with
  | atom h => cases h
  | seq h1 h2 h3 =>
    cases h1
    obtain rfl := h3.two
    cases d <;> first | (cases h2; first | exact .l | exact .t) | cases h2
theorem LsA.frs : ∀ {X : List Q2} {ys : List PyData}, LsA (X.map fr) ys → All2 Fr ys X
  | [], _, h => by cases h; exact .nil
  | x :: X, _, h => by
    cases h with
    | cons h1 h2 => exact .cons h1.fr h2.frs
theorem Ls.po {X : List Q2} {d : PyData} (h : Ls (.list (X.map LW.fr)) d) : Po d X := by
  cases h with
  | atom h => cases h
  | seq h1 h2 h3 =>
    cases h1
    exact ⟨_, h2, h3.frs⟩
theorem nd_fr (x : Q2) : nd (fr x) = true ∧ cnt (fr x) = 1 ∧ dep (fr x) = 1 := ⟨rfl, rfl, rfl⟩
theorem nd_frs (X : List Q2) : ndA (X.map fr) = true ∧ cntA (X.map fr) = X.length ∧ depA (X.map fr) ≤ 1 := by
  induction X with
  | nil => exact ⟨rfl, rfl, by decide⟩
  | cons x X ih =>
    obtain ⟨a, b, c⟩ := ih
    refine ⟨?_, ?_, ?_⟩
    · simp [ndA, a, (nd_fr x).1]
    · simp only [List.map_cons, cntA, b, (nd_fr x).2.1, List.length_cons]; omega
    · simp only [List.map_cons, depA, (nd_fr x).2.2]; omega
end LW
set_option Elab.async false
set_option linter.all false
set_option maxRecDepth 100000
set_option maxHeartbeats 0
/-! P10: a thing is the same as itself. -/
namespace LW
open PySem PySem.Spec Ev
theorem eqD_refl {d : PyData} (h : isSeq d = false) (hl : d.canLay0 = true) : eqD d d = some true := by
  cases d with
  | none => simp [eqD, SeqAt.shaped, PyData.canLay0, PyData.depth, PyData.eqv]
  | bool b => simp [eqD, SeqAt.shaped, PyData.canLay0, PyData.depth, PyData.eqv]
  | int b => simp [eqD, SeqAt.shaped, PyData.canLay0, PyData.depth, PyData.eqv]
  | str b =>
    rw [PyData.canLay0] at hl
    simp [eqD, SeqAt.shaped, PyData.canLay0, PyData.depth, PyData.eqv, hl]
  | list _ => cases h
  | tuple _ => cases h
  | dict _ => simp [PyData.canLay0] at hl
theorem lay_nd : (∀ d : PyData, d.canLay0 = true → nd d = true) ∧ ∀ ds : List PyData, PyData.canLayAll0 ds = true → ndA ds = true := by
  have key : ∀ d : PyData, d.canLay0 = true → nd d = true := by
    intro d
    refine PyData.rec (motive_1 := fun d => d.canLay0 = true → nd d = true) (motive_2 := fun ds => PyData.canLayAll0 ds = true → ndA ds = true) (motive_3 := fun _ => True) (motive_4 := fun _ => True) ?_ ?_ ?_ ?_ ?_ ?_ ?_ ?_ ?_ ?_ ?_ ?_ d
    · intro _; rfl
    · intro _ _; rfl
    · intro _ _; rfl
    · intro _ _; rfl
    · intro xs ih h; exact ih (by simpa [PyData.canLay0] using h)
    · intro xs ih h; exact ih (by simpa [PyData.canLay0] using h)
    · intro _ _ h; cases h
    · intro _; rfl
    · intro x xs h1 h2 h
      simp only [PyData.canLayAll0, Bool.and_eq_true] at h
      simp only [ndA, Bool.and_eq_true]
      exact ⟨h1 h.1, h2 h.2⟩
    · trivial
    · intros; trivial
    · intros; trivial
  refine ⟨key, fun ds => ?_⟩
  induction ds with
  | nil => intro _; rfl
  | cons x xs ih =>
    intro h
    simp only [PyData.canLayAll0, Bool.and_eq_true] at h
    simp only [ndA, Bool.and_eq_true]
    exact ⟨key x h.1, ih h.2⟩
theorem zip_map {f : PyData → PyData} (xs : List PyData) : zipL xs xs = xs.map fun x => .tuple [x, x] := by
  induction xs with
  | nil => rfl
  | cons x xs ih => rw [zipL, ih]; rfl
theorem lay_mem : ∀ {xs : List PyData} {x : PyData}, PyData.canLayAll0 xs = true → x ∈ xs → x.canLay0 = true
  | y :: ys, x, h, m => by
    simp only [PyData.canLayAll0, Bool.and_eq_true] at h
    rcases List.mem_cons.mp m with rfl | m
    · exact h.1
    · exact lay_mem h.2 m
theorem dep_mem : ∀ {xs : List PyData} {x : PyData}, x ∈ xs → dep x ≤ depA xs
  | y :: ys, x, m => by
    simp only [depA]
    rcases List.mem_cons.mp m with rfl | m
    · omega
    · have := dep_mem m; omega
theorem bool_eqD (b : Bool) : eqD (.bool b) (.bool b) = some true := eqD_refl rfl rfl
theorem same_ok : ∀ (D n : Nat) (d : PyData), d.canLay0 = true → dep d ≤ D → callN Φ (n + D + 1) 30 [.imm d, .imm d] = some (.imm (.bool true), [])
  | D, n, d, hl, hd => by
    have hdi := isi_dict (lay_nd.1 d hl)
    cases hs : seqOf d with
    | none =>
      have hi : isSeq d = false := by rw [seqOf_isSeq, hs]; rfl
      have hi' := isSeq_eq d
      rw [hi] at hi'
      have e0 := eqD_refl hi hl
      have h3 : isiD d ["dict", "list", "tuple"] = false := by
        cases d with
        | dict _ => simp [PyData.canLay0] at hl
        | list _ => cases hs
        | tuple _ => cases hs
        | _ => rfl
      rw [callN_code h__law_same rfl rfl]
      cases d with
      | none => simp [i__law_same, hdi, isSeq_eq, hi, h3, bool_eqD, e0, cmpD, isNone, show isNone PyData.none = true from rfl]
      | bool b => simp [i__law_same, hdi, isSeq_eq, hi, h3, bool_eqD, e0, cmpD, isNone]
      | int b => simp [i__law_same, hdi, isSeq_eq, hi, h3, bool_eqD, e0, cmpD, isNone]
      | str b => simp [i__law_same, hdi, isSeq_eq, hi, h3, bool_eqD, e0, cmpD, isNone]
      | list xs => cases hs
      | tuple xs => cases hs
      | dict _ => simp [PyData.canLay0] at hl
    | some xs =>
      obtain ⟨h1, h2, h3⟩ := seq_dep hs
      have hi : isSeq d = true := by rw [seqOf_isSeq, hs]; rfl
      have hp : pairOf d d = some (xs, xs) := by cases d <;> first | (cases hs; rfl) | cases hs
      have hlx : PyData.canLayAll0 xs = true := by cases d <;> first | (cases hs; simpa [PyData.canLay0] using hl) | cases hs
      match D with
      | 0 => omega
      | D + 1 =>
        have hg : goLc [2, 3] (evT (callN Φ (n + D + 1)) .tt) (ev (callN Φ (n + D + 1)) (.call 30 (.cons (.var 2) (.cons (.var 3) (.nil))))) (zipL xs xs) [some (.imm d), some (.imm d), none, none, none] = some (xs.map fun x => .bool true, [some (.imm d), some (.imm d), none, none, none]) := by
          rw [zip_map (f := id)]
          refine goLc_all2 (by simp) (All2.maps fun x hx => ?_)
          have := same_ok D n x (lay_mem hlx hx) (by have := dep_mem hx; omega)
          exact ⟨[some (.imm d), some (.imm d), some (.imm x), some (.imm x), none], [some (.imm d), some (.imm d), some (.imm x), some (.imm x), none], [some (.imm d), some (.imm d), some (.imm x), some (.imm x), none], .imm (.bool true), by simp, by simp, by simp [this], rfl, by simp⟩
        have hb : backE [some (.imm d), some (.imm d), none, none, none] [2, 3] [some (.imm d), some (.imm d), none, none, none] = [some (.imm d), some (.imm d), none, none, none] := rfl
        have ha : fnD .all [.list (xs.map fun x => .bool true)] = some (.imm (.bool true)) := by
          have := all_ok (fun _ => true) (xs := xs)
          rw [this]; simp
        rw [show n + (D + 1) + 1 = n + D + 1 + 1 by omega, callN_code h__law_same rfl rfl]
        simp [i__law_same, hdi, isSeq_eq, hi, bool_eqD, fnD_len hs, e_lc, hp, hg, hb, ha, -fnD_all]
end LW
set_option Elab.async false
set_option linter.all false
set_option maxRecDepth 100000
set_option maxHeartbeats 0
/-! P11: a copied thing is the same data. -/
namespace LW
open PySem PySem.Spec Ev
mutual
/-- the dicts within are empty -/
def cpy : PyData → Bool
  | .none | .bool _ | .int _ | .str _ => true
  | .list xs | .tuple xs => cpyA xs
  | .dict es => es.isEmpty
def cpyA : List PyData → Bool
  | [] => true
  | x :: xs => cpy x && cpyA xs
end
theorem cpy_mem : ∀ {xs : List PyData} {x : PyData}, cpyA xs = true → x ∈ xs → cpy x = true
  | y :: ys, x, h, m => by
    simp only [cpyA, Bool.and_eq_true] at h
    rcases List.mem_cons.mp m with rfl | m
    · exact h.1
    · exact cpy_mem h.2 m
theorem copy_ok : ∀ (D n : Nat) (d : PyData), cpy d = true → dep d ≤ D → ∃ o, callN Φ (n + D + 1) 32 [.imm d] = some (o, []) ∧ o.d = d
  | D, n, d, hc, hd => by
    have key : ∀ (D' : Nat) (xs : List PyData), D = D' + 1 → cpyA xs = true → depA xs ≤ D' → ∀ (b : PyData), goLc [2] (evT (callN Φ (n + D' + 1)) .tt) (ev (callN Φ (n + D' + 1)) (.call 32 (.cons (.var 2) (.nil)))) xs [some (.imm b), none, none] = some (xs, [some (.imm b), none, none]) := by
      intro D' xs hD hx hdx b
      have : xs = xs.map id := by simp
      conv => rhs; rw [this]
      refine goLc_map id (by simp) fun x hm => ?_
      obtain ⟨o, e, ho⟩ := copy_ok D' n x (cpy_mem hx hm) (by have := dep_mem hm; omega)
      exact ⟨[some (.imm b), none, some (.imm x)], [some (.imm b), none, some (.imm x)], [some (.imm b), none, some (.imm x)], o, by simp, by simp, by simp [e], ho, by simp⟩
    cases d with
    | none => exact ⟨.imm .none, by rw [callN_code h__law_b_copy rfl rfl]; simp [i__law_b_copy, isiD, isi1, kindD], rfl⟩
    | bool b => exact ⟨.imm (.bool b), by rw [callN_code h__law_b_copy rfl rfl]; simp [i__law_b_copy, isiD, isi1, kindD], rfl⟩
    | int i => exact ⟨.imm (.int i), by rw [callN_code h__law_b_copy rfl rfl]; simp [i__law_b_copy, isiD, isi1, kindD], rfl⟩
    | str x => exact ⟨.imm (.str x), by rw [callN_code h__law_b_copy rfl rfl]; simp [i__law_b_copy, isiD, isi1, kindD], rfl⟩
    | dict es =>
      have : es = [] := by simpa [cpy] using hc
      subst this
      exact ⟨.imm (.dict []), by rw [callN_code h__law_b_copy rfl rfl]; simp [i__law_b_copy, isiD, isi1, kindD, retD0], rfl⟩
    | list xs =>
      have hx : cpyA xs = true := by simpa [cpy] using hc
      have hd' : depA xs + 1 ≤ D := hd
      obtain ⟨D', rfl⟩ : ∃ D', D = D' + 1 := ⟨D - 1, by omega⟩
      have hg := key D' xs rfl hx (by omega) (.list xs)
      refine ⟨.own xs, ?_, rfl⟩
      rw [show n + (D' + 1) + 1 = n + D' + 1 + 1 by omega, callN_code h__law_b_copy rfl rfl]
      simp [i__law_b_copy, isiD, isi1, kindD, e_lc, hg, backE_non]
    | tuple xs =>
      have hx : cpyA xs = true := by simpa [cpy] using hc
      have hd' : depA xs + 1 ≤ D := hd
      obtain ⟨D', rfl⟩ : ∃ D', D = D' + 1 := ⟨D - 1, by omega⟩
      have hg := key D' xs rfl hx (by omega) (.tuple xs)
      refine ⟨.imm (.tuple xs), ?_, rfl⟩
      rw [show n + (D' + 1) + 1 = n + D' + 1 + 1 by omega, callN_code h__law_b_copy rfl rfl]
      simp [i__law_b_copy, isiD, isi1, kindD, e_lc, hg, backE_non]
end LW
set_option Elab.async false
set_option linter.all false
set_option maxRecDepth 100000
set_option maxHeartbeats 0
/-! P12: what repr tells of fractions and polynomials fits. -/
namespace LW
open PySem PySem.Spec Ev
structure Sm (d : PyData) (dp wt : Nat) : Prop where
  lay : d.canLay0 = true
  shw : d.showable = true
  dct : d.hasDict = false
  dep : d.depth ≤ dp
  lvs : d.leavesShort 200 = true
  wgt : d.weight ≤ wt
structure SmA (ds : List PyData) (dp wt : Nat) : Prop where
  lay : PyData.canLayAll0 ds = true
  shw : PyData.showableAll ds = true
  dct : PyData.hasDictAll ds = false
  dep : PyData.depthAll ds ≤ dp
  lvs : PyData.leavesShortAll 200 ds = true
  wgt : PyData.weightAll ds ≤ wt
theorem SmA.nil : SmA [] 0 0 := ⟨rfl, rfl, rfl, Nat.le_refl _, rfl, Nat.le_refl _⟩
theorem SmA.cons {d : PyData} {ds : List PyData} {p q u v : Nat} (h : Sm d p u) (t : SmA ds q v) : SmA (d :: ds) (max p q) (u + 1 + v) := by
  obtain ⟨a1, a2, a3, a4, a5, a6⟩ := h
  obtain ⟨b1, b2, b3, b4, b5, b6⟩ := t
  refine ⟨by simp [PyData.canLayAll0, a1, b1], by simp [PyData.showableAll, a2, b2], by simp [PyData.hasDictAll, a3, b3], ?_, by simp [PyData.leavesShortAll, a5, b5], ?_⟩
  · simp only [PyData.depthAll]; omega
  · simp only [PyData.weightAll]; omega
theorem Sm.list {ds : List PyData} {p u : Nat} (h : SmA ds p u) : Sm (.list ds) (p + 1) u := by
  obtain ⟨a1, a2, a3, a4, a5, a6⟩ := h
  exact ⟨by simpa [PyData.canLay0] using a1, by simpa [PyData.showable] using a2, by simpa [PyData.hasDict] using a3, by simp only [PyData.depth]; omega, by simpa [PyData.leavesShort] using a5, by simpa [PyData.weight] using a6⟩
theorem Sm.tuple {ds : List PyData} {p u : Nat} (h : SmA ds p u) : Sm (.tuple ds) (p + 1) u := by
  obtain ⟨a1, a2, a3, a4, a5, a6⟩ := h
  exact ⟨by simpa [PyData.canLay0] using a1, by simpa [PyData.showable] using a2, by simpa [PyData.hasDict] using a3, by simp only [PyData.depth]; omega, by simpa [PyData.leavesShort] using a5, by simpa [PyData.weight] using a6⟩
theorem Sm.seq {d : PyData} {ds : List PyData} {p u : Nat} (hs : seqOf d = some ds) (h : SmA ds p u) : Sm d (p + 1) u := by
  cases d <;> first | (cases hs; done) | skip
  · cases hs; exact Sm.list h
  · cases hs; exact Sm.tuple h
theorem Sm.int {i : Int} (h : i.natAbs < 2 ^ 200) : Sm (.int i) 0 200 := by
  have p : (2 : Nat) ^ 200 < 10 ^ 61 := by decide
  have t := int_text_length_le10 (a := i) (k := 61) (by decide) (by omega)
  have lg := log_lt (k := 200) (by decide) h
  refine ⟨rfl, ?_, rfl, Nat.le_refl _, ?_, ?_⟩
  · simp only [PyData.showable, decide_eq_true_eq]; omega
  · have e : (PyData.int i).shown.length ≤ 200 := by
      show (Str.ofString (toString i)).length ≤ 200
      rw [ofString_length]
      omega
    simp only [PyData.leavesShort]
    exact decide_eq_true e
  · simp only [PyData.weight]
    split <;> omega
theorem Sm.fr {d : PyData} {x : Q2} {k : Nat} (h : Fr d x) (b : Bd k x) (hk : k ≤ 200) : Sm d 1 402 := by
  have b' := b.mono hk
  have A := SmA.cons (Sm.int b'.1) (SmA.cons (Sm.int b'.2) SmA.nil)
  rcases h with rfl | rfl
  · exact Sm.tuple A
  · exact Sm.list A
theorem Sm.mono {d : PyData} {p q u v : Nat} (h : Sm d p u) (h1 : p ≤ q) (h2 : u ≤ v) : Sm d q v := ⟨h.lay, h.shw, h.dct, Nat.le_trans h.dep h1, h.lvs, Nat.le_trans h.wgt h2⟩
theorem SmA.mono {d : List PyData} {p q u v : Nat} (h : SmA d p u) (h1 : p ≤ q) (h2 : u ≤ v) : SmA d q v := ⟨h.lay, h.shw, h.dct, Nat.le_trans h.dep h1, h.lvs, Nat.le_trans h.wgt h2⟩
theorem SmA.frs {k : Nat} (hk : k ≤ 200) : ∀ {ds : List PyData} {X : List Q2}, All2 Fr ds X → PB k X → SmA ds 1 (403 * X.length)
  | _, _, .nil, _ => SmA.nil.mono (by omega) (by omega)
  | _, _, .cons (b := x) h q, hp => by
    have A := SmA.cons (Sm.fr h (hp x List.mem_cons_self).2 hk) (SmA.frs hk q fun y hy => hp y (List.mem_cons_of_mem _ hy))
    exact A.mono (by omega) (by rw [List.length_cons]; omega)
theorem Sm.po {d : PyData} {X : List Q2} {k : Nat} (h : Po d X) (hp : PB k X) (hk : k ≤ 200) : Sm d 2 (403 * X.length) := by
  obtain ⟨ds, h1, h2⟩ := h
  exact Sm.seq h1 (SmA.frs hk h2 hp)
theorem Sm.shows {d : PyData} {p u : Nat} (h : Sm d p u) (hp : p ≤ 64) (hu : u ≤ 80000) : showsB d = true := by
  have l := PyData.shown_le 200 (by decide) d h.lvs
  have w := h.wgt
  have dp := h.dep
  unfold showsB
  simp only [Bool.and_eq_true, Bool.not_eq_true', decide_eq_true_eq]
  refine ⟨⟨⟨⟨h.lay, h.shw⟩, h.dct⟩, by omega⟩, ?_⟩
  show _ ≤ 16777216
  omega
/-- two fractions' text -/
theorem shows_frs {d e : PyData} {x y : Q2} {j k : Nat} (hd : Fr d x) (he : Fr e y) (bx : Bd j x) (by' : Bd k y) (hj : j ≤ 200) (hk : k ≤ 200) : showsB (.list [d, e]) = true :=
  (Sm.list (SmA.cons (Sm.fr hd bx hj) (SmA.cons (Sm.fr he by' hk) SmA.nil))).shows (by decide) (by decide)
theorem shows_pos {d e : PyData} {X Y : List Q2} {j k : Nat} (hd : Po d X) (he : Po e Y) (bx : PB j X) (by' : PB k Y) (hj : j ≤ 200) (hk : k ≤ 200) (lx : X.length ≤ 8) (ly : Y.length ≤ 8) : showsB (.list [d, e]) = true :=
  (Sm.list (SmA.cons (Sm.po hd bx hj) (SmA.cons (Sm.po he by' hk) SmA.nil))).shows (by decide) (by omega)
theorem reprV_ok {i : Nat} {ρ : Ev.Env} {xs : List PyData} (h : getE ρ i = some (.own xs)) (hs : showsB (.list xs) = true) : reprV i ρ = some (.imm (.str (PyData.list xs).shown), ρ) := by
  unfold reprV
  rw [h]
  show (if (seqOf (Ov.own xs).d).isSome && showsB (Ov.own xs).d then _ else none) = _
  have : (Ov.own xs).d = .list xs := rfl
  rw [this, hs]
  rfl
/-- a text of Python's signs -/
def Cp (x : Str) : Prop := ∀ c ∈ x.cps.toList, c < 0x110000
theorem Cp.app {x y : Str} (a : Cp x) (b : Cp y) : Cp (x ++ y) := fun c hc => by
  have e : (x ++ y).cps.toList = x.cps.toList ++ y.cps.toList := by
    show (x.cps ++ y.cps).toList = _
    rw [Array.toList_append]
  rw [e] at hc
  rcases List.mem_append.mp hc with h | h
  · exact a c h
  · exact b c h
theorem Cp.of (s : String) : Cp (Str.ofString s) := fun c hc => by
  rw [Str.ofString_eq_toList] at hc
  simp only [List.mem_map] at hc
  obtain ⟨ch, _, rfl⟩ := hc
  have := ch.valid
  have h2 : ch.toNat < 0x110000 := by
    rcases ch.valid with h | h
    · have : ch.val.toNat < 0xd800 := h
      show ch.val.toNat < _
      omega
    · exact h.2
  exact h2
theorem Cp.text : ∀ {ts : List Str} {k : Nat} {acc : Str}, (∀ t ∈ ts, Cp t) → Cp acc → Cp (textFrom k acc ts)
  | [], _, _, _, ha => ha
  | t :: ts, k, acc, h, ha => by
    unfold textFrom
    refine Cp.text (fun u hu => h u (List.mem_cons_of_mem _ hu)) ((ha.app ?_).app (h t List.mem_cons_self))
    split
    · exact Cp.of _
    · exact Cp.of _
theorem Cp.join : ∀ {ts : List Str}, (∀ t ∈ ts, Cp t) → Cp (Str.join ", " ts)
  | [], _ => fun c hc => by
    have e : (Str.join ", " []).cps.toList = [] := rfl
    rw [e] at hc
    cases hc
  | [x], h => h x List.mem_cons_self
  | x :: y :: r, h => (((h x List.mem_cons_self).app (Cp.of _)).app (Cp.join (ts := y :: r) fun u hu => h u (List.mem_cons_of_mem _ hu)))
mutual
/-- ints alone at the leaves -/
def onlyI : PyData → Bool
  | .int _ => true
  | .list xs => onlyIA xs
  | .tuple xs => onlyIA xs
  | _ => false
def onlyIA : List PyData → Bool
  | [] => true
  | x :: xs => onlyI x && onlyIA xs
end
mutual
theorem Cp.shown : ∀ {d : PyData}, onlyI d = true → Cp d.shown
  | .int i, _ => Cp.of _
  | .list xs, h => by
    show Cp (listText (PyData.shownAll xs))
    unfold listText
    exact (Cp.text (Cp.shownAll (xs := xs) (by simpa [onlyI] using h)) (Cp.of _)).app (Cp.of _)
  | .tuple xs, h => by
    show Cp (tupleText (PyData.shownAll xs))
    unfold tupleText
    refine ((Cp.of _).app (Cp.join (Cp.shownAll (xs := xs) (by simpa [onlyI] using h)))).app ?_
    split
    · exact Cp.of _
    · exact Cp.of _
  | .none, h => by cases h
  | .bool _, h => by cases h
  | .str _, h => by cases h
  | .dict _, h => by cases h
theorem Cp.shownAll : ∀ {xs : List PyData}, onlyIA xs = true → ∀ t ∈ PyData.shownAll xs, Cp t
  | [], _, t, ht => by cases ht
  | x :: xs, h, t, ht => by
    have h' : onlyI x = true ∧ onlyIA xs = true := by simpa [onlyIA] using h
    have ht : t ∈ x.shown :: PyData.shownAll xs := ht
    rcases List.mem_cons.mp ht with rfl | ht
    · exact Cp.shown h'.1
    · exact Cp.shownAll h'.2 t ht
end
theorem Cp.eq {x : Str} (h : Cp x) : eqD (.str x) (.str x) = some true := by
  refine eqD_refl rfl ?_
  rw [PyData.canLay0]
  unfold PyData.strOk
  rw [Array.all_eq_true_iff_forall_mem]
  intro c hc
  exact decide_eq_true (h c (Array.mem_toList_iff.mpr hc))
theorem onlyI_fr {d : PyData} {x : Q2} (h : Fr d x) : onlyI d = true := by rcases h with rfl | rfl <;> rfl
theorem onlyI_frs : ∀ {ds : List PyData} {X : List Q2}, All2 Fr ds X → onlyIA ds = true
  | _, _, .nil => rfl
  | _, _, .cons h q => by
    simp only [onlyIA, Bool.and_eq_true]
    exact ⟨onlyI_fr h, onlyI_frs q⟩
theorem onlyI_po {d : PyData} {X : List Q2} (h : Po d X) : onlyI d = true := by
  obtain ⟨ds, h1, h2⟩ := h
  cases d <;> first | (cases h1; done) | skip
  · cases h1; exact onlyI_frs h2
  · cases h1; exact onlyI_frs h2
theorem shown_eq {d e : PyData} (hd : onlyI d = true) (he : onlyI e = true) : eqD (.str (PyData.list [d, e]).shown) (.str (PyData.list [d, e]).shown) = some true :=
  Cp.eq (Cp.shown (by simp [onlyI, onlyIA, hd, he]))
end LW
set_option Elab.async false
set_option linter.all false
set_option maxRecDepth 100000
set_option maxHeartbeats 0
/-! X01: what k01's functions raise. -/
namespace LW
open PySem PySem.Spec PyProof.Rows L2 RT RZ Ev SupX
def clsInit : Stmt → Stmt
  | .ClassDef (body := b) .. => b.getD 0 (.Pass ⟨0, 0, 0, 0⟩)
  | _ => .Pass ⟨0, 0, 0, 0⟩
abbrev iRatio : Stmt := clsInit (top 5)
abbrev iNought : Stmt := clsInit (top 6)
abbrev iPoly : Stmt := clsInit (top 7)
theorem init_ratio : IsInit (defBody iRatio) "ratio" := ⟨_, _, _, _, _, _, _, _, _, _, _, _, fun _ => _, rfl, fun env => rfl⟩
theorem init_nought : IsInit (defBody iNought) "ratio" := ⟨_, _, _, _, _, _, _, _, _, _, _, _, fun _ => _, rfl, fun env => rfl⟩
theorem init_poly : IsInit (defBody iPoly) "poly" := ⟨_, _, _, _, _, _, _, _, _, _, _, _, fun _ => _, rfl, fun env => rfl⟩
/-- what the head tells of the error classes -/
structure XTxt (P : Program) (K : Frag) (mg : Str → Option Value) (Cr Cn Cp : Addr) : Prop where
  ratio : ∃ fI cda cc, SupCls P K mg "BadRatio" Cr fI cda cc "BadRatio.__init__" (defArgs iRatio) (defBody iRatio) "ratio"
  nought : ∃ fI cda cc, SupCls P K mg "Nought" Cn fI cda cc "Nought.__init__" (defArgs iNought) (defBody iNought) "ratio"
  poly : ∃ fI cda cc, SupCls P K mg "BadPoly" Cp fI cda cc "BadPoly.__init__" (defArgs iPoly) (defBody iPoly) "poly"
section
variable {P : Program} {w : World} {K : Frag} {mg : Str → Option Value} {base : Heap} {a : Nat → Addr} {fd : Nat → FuncData} {Cr Cn Cp : Addr} {n : Nat}
theorem x_check_ratios (g : Good P w K mg base a fd (n + 2)) (T : Txt K mg a fd) (XT : XTxt P K mg Cr Cn Cp) : FnOk P w K mg base (CX P w) (n + 3) (a 9) (fd 9) p_check_ratios (spCL K ratD Cr "ratio") := by
  obtain ⟨fI, cda, cc, TC⟩ := XT.ratio
  refine T.d_check_ratios.ok sc_check_ratios (fun vs H Q E h => ?_) (fun cdv A outer s H vs Q E hr h => ⟨tCheckL K H (callN Φ (n + 2)) (.not (.val (.call 4 (.cons (.var 1) .nil)))) Cr "ratio" (fun cls d _ H => E cls d H), ?_, checkL_fn rfl (fun d => by simp) h⟩)
  · obtain ⟨_, _, _, _, rfl, _⟩ := h
    rfl
  · exact pss_cons (ps_for (passes_of rfl) rfl (pi_list (pv 0)) (pg_name (i := 1) sc_check_ratios.nd rfl (Or.inl rfl)) (pss_cons (ps_if (ST.pt (st_not (st_val (se_call g.g_is_ratio hr rfl T.m_is_ratio T.d_is_ratio.kp T.b_is_ratio pass0 (sa_cons (se_var (i := 1)) sa_nil))))) (pss_cons (ps_raiseI init_ratio TC rfl hr (takes_of rfl rfl rfl rfl) (pa_cons (pv 1) pa_nil) rfl) pss_nil) pss_nil) pss_nil)) pss_nil
theorem x_check_polys (g : Good P w K mg base a fd (n + 3)) (T : Txt K mg a fd) (XT : XTxt P K mg Cr Cn Cp) : FnOk P w K mg base (CX P w) (n + 4) (a 21) (fd 21) p_check_polys (spCL K polyD Cp "poly") := by
  obtain ⟨fI, cda, cc, TC⟩ := XT.poly
  refine T.d_check_polys.ok sc_check_polys (fun vs H Q E h => ?_) (fun cdv A outer s H vs Q E hr h => ⟨tCheckL K H (callN Φ (n + 3)) (.not (.val (.call 14 (.cons (.var 1) .nil)))) Cp "poly" (fun cls d _ H => E cls d H), ?_, checkL_fn rfl (fun d => by simp) h⟩)
  · obtain ⟨_, _, _, _, rfl, _⟩ := h
    rfl
  · exact pss_cons (ps_for (passes_of rfl) rfl (pi_list (pv 0)) (pg_name (i := 1) sc_check_polys.nd rfl (Or.inl rfl)) (pss_cons (ps_if (ST.pt (st_not (st_val (se_call g.g_is_poly hr rfl T.m_is_poly T.d_is_poly.kp T.b_is_poly pass0 (sa_cons (se_var (i := 1)) sa_nil))))) (pss_cons (ps_raiseI init_poly TC rfl hr (takes_of rfl rfl rfl rfl) (pa_cons (pv 1) pa_nil) rfl) pss_nil) pss_nil) pss_nil)) pss_nil
theorem spA_len {np : Nat} {B : List PyData → Nat → Prop} {C : Addr} {fld : Str} {vs : List V} {H : Hp} {Q : VK} {E : XK} (h : spA K np B C fld vs H Q E) : vs.length = np := by
  obtain ⟨_, _, _, _, _, _, h, _⟩ := h
  exact h
theorem x_ratio_sum (T : Txt K mg a fd) (hc : FnOk P w K mg base (CX P w) n (a 9) (fd 9) p_check_ratios (spCL K ratD Cr "ratio")) : FnOk P w K mg base (CX P w) (n + 1) (a 10) (fd 10) p_ratio_sum (spA K 2 (B2 ratD) Cr "ratio") :=
  T.d_ratio_sum.ok sc_ratio_sum (fun vs H Q E h => spA_len h) (fun cdv A outer s H vs Q E hr h => ⟨tSeq (tChk2 K ratD Cr "ratio" E) tNever,
    pss_cons (ps_expr (pe_call hc hr rfl T.m_check_ratios T.d_check_ratios.kp T.b_check_ratios .nil (passes_call (takes_of rfl rfl rfl rfl) fun _ _ _ _ h => h) (pa_cons (pe_lst (pa_cons (pv 0) (pa_cons (pv 1) pa_nil))) pa_nil))) pss_never, api2_fn (by decide) h⟩)
theorem x_ratio_less (T : Txt K mg a fd) (hc : FnOk P w K mg base (CX P w) n (a 9) (fd 9) p_check_ratios (spCL K ratD Cr "ratio")) : FnOk P w K mg base (CX P w) (n + 1) (a 11) (fd 11) p_ratio_less (spA K 2 (B2 ratD) Cr "ratio") :=
  T.d_ratio_less.ok sc_ratio_less (fun vs H Q E h => spA_len h) (fun cdv A outer s H vs Q E hr h => ⟨tSeq (tChk2 K ratD Cr "ratio" E) tNever,
    pss_cons (ps_expr (pe_call hc hr rfl T.m_check_ratios T.d_check_ratios.kp T.b_check_ratios .nil (passes_call (takes_of rfl rfl rfl rfl) fun _ _ _ _ h => h) (pa_cons (pe_lst (pa_cons (pv 0) (pa_cons (pv 1) pa_nil))) pa_nil))) pss_never, api2_fn (by decide) h⟩)
theorem x_ratio_times (T : Txt K mg a fd) (hc : FnOk P w K mg base (CX P w) n (a 9) (fd 9) p_check_ratios (spCL K ratD Cr "ratio")) : FnOk P w K mg base (CX P w) (n + 1) (a 12) (fd 12) p_ratio_times (spA K 2 (B2 ratD) Cr "ratio") :=
  T.d_ratio_times.ok sc_ratio_times (fun vs H Q E h => spA_len h) (fun cdv A outer s H vs Q E hr h => ⟨tSeq (tChk2 K ratD Cr "ratio" E) tNever,
    pss_cons (ps_expr (pe_call hc hr rfl T.m_check_ratios T.d_check_ratios.kp T.b_check_ratios .nil (passes_call (takes_of rfl rfl rfl rfl) fun _ _ _ _ h => h) (pa_cons (pe_lst (pa_cons (pv 0) (pa_cons (pv 1) pa_nil))) pa_nil))) pss_never, api2_fn (by decide) h⟩)
theorem x_ratio_over (T : Txt K mg a fd) (hc : FnOk P w K mg base (CX P w) n (a 9) (fd 9) p_check_ratios (spCL K ratD Cr "ratio")) : FnOk P w K mg base (CX P w) (n + 1) (a 13) (fd 13) p_ratio_over (spA K 2 (B2 ratD) Cr "ratio") :=
  T.d_ratio_over.ok sc_ratio_over (fun vs H Q E h => spA_len h) (fun cdv A outer s H vs Q E hr h => ⟨tSeq (tChk2 K ratD Cr "ratio" E) tNever,
    pss_cons (ps_expr (pe_call hc hr rfl T.m_check_ratios T.d_check_ratios.kp T.b_check_ratios .nil (passes_call (takes_of rfl rfl rfl rfl) fun _ _ _ _ h => h) (pa_cons (pe_lst (pa_cons (pv 0) (pa_cons (pv 1) pa_nil))) pa_nil))) pss_never, api2_fn (by decide) h⟩)
theorem x_poly_sum (T : Txt K mg a fd) (hc : FnOk P w K mg base (CX P w) n (a 21) (fd 21) p_check_polys (spCL K polyD Cp "poly")) : FnOk P w K mg base (CX P w) (n + 1) (a 22) (fd 22) p_poly_sum (spA K 2 (B2 polyD) Cp "poly") :=
  T.d_poly_sum.ok sc_poly_sum (fun vs H Q E h => spA_len h) (fun cdv A outer s H vs Q E hr h => ⟨tSeq (tChk2 K polyD Cp "poly" E) tNever,
    pss_cons (ps_expr (pe_call hc hr rfl T.m_check_polys T.d_check_polys.kp T.b_check_polys .nil (passes_call (takes_of rfl rfl rfl rfl) fun _ _ _ _ h => h) (pa_cons (pe_lst (pa_cons (pv 0) (pa_cons (pv 1) pa_nil))) pa_nil))) pss_never, api2_fn (by decide) h⟩)
theorem x_poly_less (T : Txt K mg a fd) (hc : FnOk P w K mg base (CX P w) n (a 21) (fd 21) p_check_polys (spCL K polyD Cp "poly")) : FnOk P w K mg base (CX P w) (n + 1) (a 23) (fd 23) p_poly_less (spA K 2 (B2 polyD) Cp "poly") :=
  T.d_poly_less.ok sc_poly_less (fun vs H Q E h => spA_len h) (fun cdv A outer s H vs Q E hr h => ⟨tSeq (tChk2 K polyD Cp "poly" E) tNever,
    pss_cons (ps_expr (pe_call hc hr rfl T.m_check_polys T.d_check_polys.kp T.b_check_polys .nil (passes_call (takes_of rfl rfl rfl rfl) fun _ _ _ _ h => h) (pa_cons (pe_lst (pa_cons (pv 0) (pa_cons (pv 1) pa_nil))) pa_nil))) pss_never, api2_fn (by decide) h⟩)
theorem x_poly_times (T : Txt K mg a fd) (hc : FnOk P w K mg base (CX P w) n (a 21) (fd 21) p_check_polys (spCL K polyD Cp "poly")) : FnOk P w K mg base (CX P w) (n + 1) (a 24) (fd 24) p_poly_times (spA K 2 (B2 polyD) Cp "poly") :=
  T.d_poly_times.ok sc_poly_times (fun vs H Q E h => spA_len h) (fun cdv A outer s H vs Q E hr h => ⟨tSeq (tChk2 K polyD Cp "poly" E) tNever,
    pss_cons (ps_expr (pe_call hc hr rfl T.m_check_polys T.d_check_polys.kp T.b_check_polys .nil (passes_call (takes_of rfl rfl rfl rfl) fun _ _ _ _ h => h) (pa_cons (pe_lst (pa_cons (pv 0) (pa_cons (pv 1) pa_nil))) pa_nil))) pss_never, api2_fn (by decide) h⟩)
theorem x_poly_derived (T : Txt K mg a fd) (hc : FnOk P w K mg base (CX P w) n (a 21) (fd 21) p_check_polys (spCL K polyD Cp "poly")) : FnOk P w K mg base (CX P w) (n + 1) (a 25) (fd 25) p_poly_derived (spA K 1 (B1 polyD) Cp "poly") :=
  T.d_poly_derived.ok sc_poly_derived (fun vs H Q E h => spA_len h) (fun cdv A outer s H vs Q E hr h => ⟨tSeq (tChk1 K polyD Cp "poly" E 0) tNever,
    pss_cons (ps_expr (pe_call hc hr rfl T.m_check_polys T.d_check_polys.kp T.b_check_polys .nil (passes_call (takes_of rfl rfl rfl rfl) fun _ _ _ _ h => h) (pa_cons (pe_lst (pa_cons (pv 0) pa_nil)) pa_nil))) pss_never, api1_fn h⟩)
theorem x_poly_at (T : Txt K mg a fd) (hc : FnOk P w K mg base (CX P w) n (a 21) (fd 21) p_check_polys (spCL K polyD Cp "poly")) : FnOk P w K mg base (CX P w) (n + 1) (a 26) (fd 26) p_poly_at (spA K 2 (B1 polyD) Cp "poly") :=
  T.d_poly_at.ok sc_poly_at (fun vs H Q E h => spA_len h) (fun cdv A outer s H vs Q E hr h => ⟨tSeq (tChk1 K polyD Cp "poly" E 0) tNever,
    pss_cons (ps_expr (pe_call hc hr rfl T.m_check_polys T.d_check_polys.kp T.b_check_polys .nil (passes_call (takes_of rfl rfl rfl rfl) fun _ _ _ _ h => h) (pa_cons (pe_lst (pa_cons (pv 0) pa_nil)) pa_nil))) pss_never, api1_fn h⟩)
theorem x_poly_at2 (T : Txt K mg a fd) (hc : FnOk P w K mg base (CX P w) n (a 21) (fd 21) p_check_polys (spCL K polyD Cp "poly")) (hc2 : FnOk P w K mg base (CX P w) n (a 9) (fd 9) p_check_ratios (spCL K ratD Cr "ratio")) : FnOk P w K mg base (CX P w) (n + 1) (a 26) (fd 26) p_poly_at (spA K 2 (B11 polyD ratD) Cr "ratio") :=
  T.d_poly_at.ok sc_poly_at (fun vs H Q E h => spA_len h) (fun cdv A outer s H vs Q E hr h => ⟨tSeq (tChk1 K polyD Cp "poly" E 0) (tSeq (tChk1 K ratD Cr "ratio" E 1) tNever),
    pss_cons (ps_expr (pe_call hc hr rfl T.m_check_polys T.d_check_polys.kp T.b_check_polys .nil (passes_call (takes_of rfl rfl rfl rfl) fun _ _ _ _ h => h) (pa_cons (pe_lst (pa_cons (pv 0) pa_nil)) pa_nil)))
      (pss_cons (ps_expr (pe_call hc2 hr rfl T.m_check_ratios T.d_check_ratios.kp T.b_check_ratios .nil (passes_call (takes_of rfl rfl rfl rfl) fun _ _ _ _ h => h) (pa_cons (pe_lst (pa_cons (pv 1) pa_nil)) pa_nil))) pss_never), api11_fn h⟩)
/-- the divisor is nought -/
def nought (d : PyData) : Bool := match idxD d (.int 0) with
  | some (.int i) => decide (i = 0)
  | _ => false
theorem x_ratio_over0 (T : Txt K mg a fd) (XT : XTxt P K mg Cr Cn Cp) (hc : FnOk P w K mg base (CX P w) n (a 9) (fd 9) p_check_ratios (spCL K ratD Cr "ratio")) : FnOk P w K mg base (CX P w) (n + 1) (a 13) (fd 13) p_ratio_over (spA K 2 (B2t ratD nought) Cn "ratio") := by
  obtain ⟨fI, cda, cc, TC⟩ := XT.nought
  refine T.d_ratio_over.ok sc_ratio_over (fun vs H Q E h => spA_len h) (fun cdv A outer s H vs Q E hr h => ⟨_, ?_, api2t_fn (C := Cr) (fld := "ratio") (cs := callN Φ 0) (it := .cmp .eq (.idxv 1 (.lit (.int 0))) (.lit (.int 0))) rfl (fun d e he => ?_) h⟩)
  · exact pss_cons (ps_expr (pe_call hc hr rfl T.m_check_ratios T.d_check_ratios.kp T.b_check_ratios .nil (passes_call (takes_of rfl rfl rfl rfl) fun _ _ _ _ h => h) (pa_cons (pe_lst (pa_cons (pv 0) (pa_cons (pv 1) pa_nil))) pa_nil)))
      (pss_cons (ps_if (ST.pt (st_cmp (cm_eq hr.units) (se_idxv (i := 1) se_int) se_int (nomark _))) (pss_cons (ps_raiseI init_nought TC rfl hr (takes_of rfl rfl rfl rfl) (pa_cons (pv 1) pa_nil) rfl) pss_nil) pss_nil) pss_never)
  · obtain ⟨x, hx, _⟩ := ratD_fr he
    simp [hx.i0, nought]
end
end LW
set_option Elab.async false
set_option linter.all false
set_option maxRecDepth 100000
set_option maxHeartbeats 0
/-! X02: k01's _law_n_met. -/
namespace LW
open PySem PySem.Spec PyProof.Rows L2 RT RZ Ev SupX LamX LamD
/-- a lambda's text and what its body does -/
structure LamSpec where
  params : Arguments
  body : Expr
  scope : Scope
  ps : List Str
  dvs : List V
  tb : XK → TE
structure LamSpec.ok (X : Cx) (k : Nat) (L : LamSpec) : Prop where
  sc : LamS2 X.env.scope L.scope L.ps
  bd : LBind L.params L.body L.scope L.ps L.dvs
  run : ∀ (A : Around) (outer : List PySem.Env) (s : Shared) (H : Hp) (E : XK) (f c' : Addr), Room k (A.deeper (lamEnv X L.scope s.heap.objs.size f c')) → PE (lamCx X A outer s H E L.scope f c') L.body (L.tb E)
def metN : List Str := ["query", "e"]
abbrev sMet : Stmt := top 57
theorem sc_met : FnScope metN ["query"] (defScope sMet) := ⟨rfl, rfl, rfl, by decide +kernel, rfl, by decide +kernel, by decide +kernel⟩
/-- a caught exception told: the word, the field's very thing -/
def MetC (C : Addr) (word fld : Str) (Q : VK) : XK := fun cls dd H' => ∃ (v : V) (d : Addr) (fs : List (Str × V)), cls = .ref C ∧ dd = some d ∧ H' d = some (.xd fs) ∧ fs.lookup fld = some v ∧ ∀ p, H' p = none → Q (.ref p) (upd H' p (.lst [.str word, v]))
def MetE (Cr Cn Cp : Addr) (Q : VK) : XK := fun cls dd H' => MetC Cr "ratio" "ratio" Q cls dd H' ∨ MetC Cn "nought" "ratio" Q cls dd H' ∨ MetC Cp "poly" "poly" Q cls dd H'
def MetQ (Q : VK) : VK := fun _ H' => [V.str "let", V.non].length ≤ sizeLine ∧ ∀ p, H' p = none → Q (.ref p) (upd H' p (.lst [.str "let", .non]))
/-- the facts of the error classes that except clauses ask -/
structure XMet (K : Frag) (mg : Str → Option Value) (Cr Cn Cp : Addr) : Prop where
  gr : mg "BadRatio" = some (.ref Cr)
  gn : mg "Nought" = some (.ref Cn)
  gp : mg "BadPoly" = some (.ref Cp)
  xr : XfC K Cr
  xn : XfC K Cn
  xp : XfC K Cp
  nr : PySem.W.findIn K (.ref Cr) "ratio" = some none
  nn : PySem.W.findIn K (.ref Cn) "ratio" = some none
  np : PySem.W.findIn K (.ref Cp) "poly" = some none
  rr : PySem.W.exmOne K (.ref Cr) (.ref Cr) = some true
  rn : PySem.W.exmOne K (.ref Cn) (.ref Cr) = some false
  rp : PySem.W.exmOne K (.ref Cp) (.ref Cr) = some false
  nn' : PySem.W.exmOne K (.ref Cn) (.ref Cn) = some true
  np' : PySem.W.exmOne K (.ref Cp) (.ref Cn) = some false
  pp : PySem.W.exmOne K (.ref Cp) (.ref Cp) = some true
def tSuite (C : Addr) (word fld : Str) : Addr → Value → Option Addr → TS := fun a cls d => tSeq (tRet (tLst (tCons (tC (.str word)) (tCons (tXf a cls d C fld (tVar 1)) tNil)))) tNext
theorem suite_ok {C : Addr} {word fld : Str} {Q : VK} {cls : Value} {dd : Option Addr} {H' : Hp} {D : Ends} {σ : L2.St} (h : MetC C word fld Q cls dd H') (hD : D.rt = Q) (a : Addr) (hl : σ.length = 2) : tSuite C word fld a cls dd D (σ.set 1 (some (.ref a))) H' := by
  obtain ⟨v, d, fs, rfl, rfl, hd, hf, hq⟩ := h
  have h1 : (σ.set 1 (some (V.ref a)))[1]? = some (some (.ref a)) := by rw [List.getElem?_set_self (by omega)]
  refine ⟨.ref a, h1, rfl, rfl, d, fs, v, rfl, hd, hf, two_fit _ _, fun p hp => ?_⟩
  show D.rt _ _
  rw [hD]
  exact hq p hp
def tMetBody (K : Frag) (Cr Cn Cp : Addr) (tact : XK → WX → TE) : TS :=
  tSeq (fun D σ H => ∃ E : XK, tDrop (tact E (wManyA K 1 (fun _ _ _ _ => False) D [(.ref Cr, tSuite Cr "ratio" "ratio"), (.ref Cn, tSuite Cn "nought" "ratio"), (.ref Cp, tSuite Cp "poly" "poly")])) D σ H) (tSeq (tRet (tLst (tCons (tC (.str "let")) (tCons (tC .non) tNil)))) tNext)
section
variable {X : Cx} {k : Nat} {g : Addr} {fd : FuncData} {Cr Cn Cp : Addr} {alts : List LamSpec} {e : Expr} {te : TE} {p pos : Pos}
/-- what _law_n_met(e) tells, e a lambda among these -/
def preMet (X : Cx) (Cr Cn Cp : Addr) (alts : List LamSpec) (σ : L2.St) (H : Hp) (v : V) (Q : VK) : Prop := σ.length = X.N.length ∧ ∃ L ∈ alts, ∃ f, v = .ref f ∧ LamAt H f (X.env.qual ++ "<lambda>") L.params L.body L.scope (cloFrom X.env.cells L.scope.names []) L.dvs ∧ L.tb (MetE Cr Cn Cp Q) (hideL X.N L.scope σ) H (MetQ Q)
theorem pe_met (XM : XMet X.K X.mg Cr Cn Cp) (F : FunD X.K "_law_n_met" "_law_n_met" (defArgs sMet) (defBody sMet) (defScope sMet) [] [] g fd) (hg : Gl X "_law_n_met") (hm : X.mg "_law_n_met" = some (.ref g)) (hr : Room (k + 2) X.A) (ha : PE X e te) (hL : ∀ L ∈ alts, LamSpec.ok X k L)
    (he : starEach (e :: []) X.env = (false, eval e X.env) :: starEach [] X.env := by rfl) (hpl : (backTo pos (starEach [] X.env)).any (·.1) = false := by rfl) : PE X (.Call (.Name "_law_n_met" p) [e] [] pos) (fun σ H Q => te σ H fun v H1 => preMet X Cr Cn Cp alts σ H1 v Q) := by
  have hb : L2.Binds X.K fd ["query"] [] := F.bindsN fun _ _ _ _ _ _ us hl => match us, hl with | [_], _ => rfl
  refine pe_callF (k := k + 1) (Ng := metN) F sc_met hb hg hm hr ha (fun cdv pins σ H s v Q I hr' h => ?_) (by decide) he hpl
  obtain ⟨hlen, L, hLm, f, rfl, hat, htb⟩ := h
  have ok := hL L hLm
  refine ⟨tMetBody X.K Cr Cn Cp (fun E W σZ HZ Q => σZ[0]? = some (some (.ref f)) ∧ LamAt HZ f (X.env.qual ++ "<lambda>") L.params L.body L.scope (cloFrom X.env.cells L.scope.names []) L.dvs ∧ (∀ cls d H', E cls d H' → W cls d σZ H') ∧ L.tb E (hideL X.N L.scope σ) HZ Q), ?_, ?_⟩
  · refine pss_cons (ps_try_manyA (X := (cxOf CX0 X.prog X.w X.K X.mg X.base metN "_law_n_met" (defScope sMet) g cdv X.A X.stack s H E0).nox) (n := "e") (i := 1) (Wout := fun _ _ _ _ => False)
      (tb := fun W D σ H => ∃ E : XK, tDrop (fun σZ HZ Q => σZ[0]? = some (some (.ref f)) ∧ LamAt HZ f (X.env.qual ++ "<lambda>") L.params L.body L.scope (cloFrom X.env.cells L.scope.names []) L.dvs ∧ (∀ cls d H', E cls d H' → W cls d σZ H') ∧ L.tb E (hideL X.N L.scope _) HZ Q) D σ H)
      rfl rfl sc_met.nd rfl rfl takes_none5 (fun W pn xe tk _ => ?_) ?_) (pss_cons (ps_ret (pe_lst (pa_cons pe_str (pa_cons pe_non pa_nil)))) pss_nil)
    · refine ⟨fun pins' s' σ' H' D I' ⟨E, h'⟩ => ?_⟩
      exact (pss_cons (ps_expr (pe_actD (CXg := CX0) (Eg := E0) (k := k) (i := 0) (W := W) (E := E) (tb := L.tb E) I ok.sc ok.bd tk hr' (fun A outer s H c' hr2 => ok.run A outer s H E f c' hr2) rfl (Or.inl rfl))) pss_nil).run pins' s' σ' H' D I' h'
    · exact .cons ⟨rfl, by decide, .inl XM.gr⟩ (fun a oe cls d pn hz hf => pss_cons (ps_ret (pe_lst (pa_cons pe_str (pa_cons (pe_xf XM.xr XM.nr hz hf (pv 1)) pa_nil)))) pss_nil)
        (.cons ⟨rfl, by decide, .inl XM.gn⟩ (fun a oe cls d pn hz hf => pss_cons (ps_ret (pe_lst (pa_cons pe_str (pa_cons (pe_xf XM.xn XM.nn hz hf (pv 1)) pa_nil)))) pss_nil)
        (.cons ⟨rfl, by decide, .inl XM.gp⟩ (fun a oe cls d pn hz hf => pss_cons (ps_ret (pe_lst (pa_cons pe_str (pa_cons (pe_xf XM.xp XM.np hz hf (pv 1)) pa_nil)))) pss_nil) .nil))
  · refine ⟨MetE Cr Cn Cp Q, rfl, hat, fun cls dd H' hE => ?_, ?_⟩
    · rcases hE with h | h | h
      · have hc : cls = .ref Cr := let ⟨_, _, _, h, _⟩ := h; h
        exact ⟨true, by rw [hc]; exact XM.rr, fun _ a _ => suite_ok h rfl a rfl, fun z => by cases z⟩
      · have hc : cls = .ref Cn := let ⟨_, _, _, h, _⟩ := h; h
        exact ⟨false, by rw [hc]; exact XM.rn, fun z => (by cases z), fun _ => ⟨true, by rw [hc]; exact XM.nn', fun _ a _ => suite_ok h rfl a rfl, fun z => by cases z⟩⟩
      · have hc : cls = .ref Cp := let ⟨_, _, _, h, _⟩ := h; h
        exact ⟨false, by rw [hc]; exact XM.rp, fun z => (by cases z), fun _ => ⟨false, by rw [hc]; exact XM.np', fun z => (by cases z), fun _ => ⟨true, by rw [hc]; exact XM.pp, fun _ a _ => suite_ok h rfl a rfl, fun z => by cases z⟩⟩⟩
    · exact htb
end
end LW
set_option Elab.async false
set_option linter.all false
set_option maxRecDepth 100000
set_option maxHeartbeats 0
/-! V1: _law_very(v, v) tells True. -/
namespace LW
open PySem PySem.Spec PyProof.Rows L2 RT RZ Ev
def veryN : List Str := ["kept", "thing", "found"]
abbrev sVery : Stmt := top 42
theorem ifT {p q : Prop} (h : p) : if true = true then p else q := h
theorem ifF {p q : Prop} (h : q) : if false = true then p else q := h
theorem sc_very : FnScope veryN ["kept", "thing"] (defScope sVery) := ⟨rfl, rfl, rfl, by decide +kernel, rfl, by decide +kernel, by decide +kernel⟩
def tIsiV (K : Frag) (i : Nat) (t : String) : TE := fun σ H Q => tVar i σ H fun x H1 => rIsi K [x, .ty t] H1 Q
section
variable {P : Program} {w : World} {K : Frag} {mg : Str → Option Value} {base : Heap} {a : Nat → Addr} {fd : Nat → FuncData} {n : Nat} {g : Addr} {fdv : FuncData}
theorem very_list (T : Txt K mg a fd) (D : FunD K "_law_very" "_law_very" (defArgs sVery) (defBody sVery) (defScope sVery) [] [] g fdv) : FnOk P w K mg base CX0 (n + 1) g fdv ["kept", "thing"] (fun vs H Q E => ∃ b ws, vs = [.ref b, .ref b] ∧ H b = some (.lst ws) ∧ ws.length < sizeLine ∧ Q (.bl true) H) := by
  refine D.ok sc_very (fun vs H Q E h => ?_) (fun cdv A outer s H vs Q E hr h => ?_)
  · obtain ⟨_, _, rfl, _⟩ := h
    rfl
  · obtain ⟨b, ws, rfl, hb, hl, hq⟩ := h
    refine ⟨_, pss_cons (ps_if (pt_val (pe_callB call_isi rfl T.f_isinstance PyProof.Rows.boot_isinstance (pa_cons (pv 1) (pa_ty rfl T.f_list PyProof.Rows.boot_list pa_ty0)) (by decide) (by decide)))
      (pss_cons (ps_expr (pe_bm PySem.F.plainAttrs_list PySem.F.slot_list_append PySem.F.type_list_append mt_append (pv 1) (pa_cons pe_str pa_nil)))
      (pss_cons (ps_set (i := 2) sc_very.nd rfl (Or.inl rfl) (pe_and (pe_callB call_isi rfl T.f_isinstance PyProof.Rows.boot_isinstance (pa_cons (pv 0) (pa_ty rfl T.f_list PyProof.Rows.boot_list pa_ty0)) (by decide) (by decide))
        (pe_and (pe_cmpR op_eq (pe_callB call_len rfl T.f_len PySem.boot_len (pa_cons (pv 0) pa_nil) (by decide) (by decide)) (pe_callB call_len rfl T.f_len PySem.boot_len (pa_cons (pv 1) pa_nil) (by decide) (by decide)) (nomark _))
        (pe_one (pe_cmpR op_eq (pe_ix ix_seq (pv 0) (pe_un un_neg pe_int) (by intro _ _; rfl)) pe_str (nomark _))))))
      (pss_cons (ps_expr (pe_bm0 PySem.F.plainAttrs_list PySem.F.slot_list_pop PySem.F.type_list_pop mt_pop (pv 1)))
      (pss_cons (ps_ret (pv 2)) pss_nil)))) pss_nil) pss_never, ?_⟩
    have k0 : PySem.W.kitOne K (.type "list") (.type "list") = some true := kit_data (K := K) (.list []) "list" rfl
    refine ⟨.ref b, rfl, .ref b, .ty "list", _, _, true, rfl, .ty _, .base (.lst hb), k0, true, rfl, ?_⟩
    refine ifT ?_
    refine ⟨.ref b, rfl, .inl ⟨rfl, ws, SqL.of hb⟩, b, ws, _, rfl, rfl, hb, hl, ?_⟩
    have h1 : upd H b (.lst (ws ++ [.str " late "])) b = some (.lst (ws ++ [.str " late "])) := upd_same
    have len1 : LenV K (.ref b) (upd H b (.lst (ws ++ [.str " late "]))) (ws ++ [V.str " late "]).length := .inl ⟨_, SqL.of h1, rfl⟩
    have hx : upd (upd H b (.lst (ws ++ [V.str " late "]))) b (.lst (ws ++ [V.str " late "]).dropLast) = H := by
      rw [List.dropLast_concat]
      funext c
      by_cases z : c = b
      · subst z; rw [upd_same, hb]
      · rw [upd_ne z, upd_ne z]
    refine ⟨.ref b, rfl, .ref b, .ty "list", _, _, true, rfl, .ty _, .base (.lst h1), k0, true, rfl, ifT ?_⟩
    refine ⟨.ref b, rfl, .ref b, _, rfl, len1, .ref b, rfl, .ref b, _, rfl, len1, rfl, true, by simp, ifT ?_⟩
    refine ⟨.ref b, rfl, ⟨_, rfl, .inl ⟨b, _, _, _, rfl, rfl, SqL.of h1, atI_last ws _, rfl, ?_⟩⟩⟩
    refine ⟨.ref b, rfl, .inl ⟨rfl, _, SqL.of h1⟩, b, _, .str " late ", rfl, rfl, h1, by rw [List.length_append]; exact List.getElem?_concat_length, ?_⟩
    rw [hx]
    refine ⟨.bl _, rfl, ?_⟩
    simpa using hq
theorem very_dct (T : Txt K mg a fd) (hdct : mg "dict" = none) (D : FunD K "_law_very" "_law_very" (defArgs sVery) (defBody sVery) (defScope sVery) [] [] g fdv) : FnOk P w K mg base CX0 (n + 1) g fdv ["kept", "thing"] (fun vs H Q E => ∃ b, vs = [.ref b, .ref b] ∧ H b = some (.dK []) ∧ Q (.bl true) H) := by
  refine D.ok sc_very (fun vs H Q E h => ?_) (fun cdv A outer s H vs Q E hr h => ?_)
  · obtain ⟨_, rfl, _⟩ := h
    rfl
  · obtain ⟨b, rfl, hb, hq⟩ := h
    have hu : (A.deeper (envOfC "_law_very" (defScope sVery) s.heap.objs.size g cdv)).units + 1 < cLine := by have := hr.units; omega
    have bd : bootBuiltins "dict" = some (.type "dict") := by decide +kernel
    refine ⟨_, pss_cons (ps_if (pt_val (pe_callB call_isi rfl T.f_isinstance PyProof.Rows.boot_isinstance (pa_cons (pv 1) (pa_ty rfl T.f_list PyProof.Rows.boot_list pa_ty0)) (by decide) (by decide))) pss_never pss_nil)
      (pss_cons (ps_if (pt_val (pe_callB call_isi rfl T.f_isinstance PyProof.Rows.boot_isinstance (pa_cons (pv 1) (pa_ty rfl hdct bd pa_ty0)) (by decide) (by decide)))
      (pss_cons (ps_dput hu (pv 1) pe_str pe_int rfl)
      (pss_cons (ps_set (i := 2) sc_very.nd rfl (Or.inl rfl) (pe_and (pe_callB call_isi rfl T.f_isinstance PyProof.Rows.boot_isinstance (pa_cons (pv 0) (pa_ty rfl hdct bd pa_ty0)) (by decide) (by decide))
        (pe_and (pe_cmpR op_eq (pe_callB call_lenD rfl T.f_len PySem.boot_len (pa_cons (pv 0) pa_nil) (by decide) (by decide)) (pe_callB call_lenD rfl T.f_len PySem.boot_len (pa_cons (pv 1) pa_nil) (by decide) (by decide)) (nomark _))
        (pe_one (pe_cmpR op_eq (pe_dget1 hu (pv 0) pe_str ⟨rfl, rfl, rfl, rfl⟩) pe_int (nomark _))))))
      (pss_cons (ps_expr (pe_dpop1 (pv 1) pe_str ⟨rfl, rfl, rfl, rfl⟩))
      (pss_cons (ps_ret (pv 2)) pss_nil)))) pss_nil) pss_never), ?_⟩
    have k0 : PySem.W.kitOne K (.type "dict") (.type "list") = some false := kit_data (K := K) (.dict []) "list" rfl
    have k1 : PySem.W.kitOne K (.type "dict") (.type "dict") = some true := kit_data (K := K) (.dict []) "dict" rfl
    refine ⟨.ref b, rfl, .ref b, .ty "list", _, _, false, rfl, .ty _, .base (.dK hb), k0, false, rfl, ifF ?_⟩
    refine ⟨.ref b, rfl, .ref b, .ty "dict", _, _, true, rfl, .ty _, .base (.dK hb), k1, true, rfl, ifT ?_⟩
    have h1 : upd H b (.dK [(.inr " late ", .int 7)]) b = some (.dK [(.inr " late ", .int 7)]) := upd_same
    have hx : upd (upd H b (.dK [(.inr " late ", .int 7)])) b (.dK []) = H := by
      funext c
      by_cases z : c = b
      · subst z; rw [upd_same, hb]
      · rw [upd_ne z, upd_ne z]
    refine ⟨.ref b, rfl, b, upd H b (.dK [(.inr " late ", .int 7)]), rfl, DPut.k (k := .inr " late ") hb (by decide), ?_⟩
    refine ⟨.ref b, rfl, .ref b, .ty "dict", _, _, true, rfl, .ty _, .base (.dK h1), k1, true, rfl, ifT ?_⟩
    refine ⟨.ref b, rfl, b, _, rfl, h1, .ref b, rfl, b, _, rfl, h1, rfl, true, by simp, ifT ?_⟩
    refine ⟨.ref b, rfl, b, rfl, .inl ⟨_, .inl h1⟩, _, DGet.k (k := .inr " late ") h1, rfl, ?_⟩
    refine ⟨.ref b, rfl, b, rfl, .inl ⟨_, .inl h1⟩, _, .inr " late ", .int 7, h1, rfl, by decide, ?_⟩
    have e : dropK [((.inr " late " : L2.Key), V.int 7)] (.inr " late ") = [] := by decide
    rw [e, hx]
    refine ⟨.bl _, rfl, ?_⟩
    simpa [valV] using hq
end
end LW
set_option Elab.async false
set_option linter.all false
set_option maxRecDepth 100000
set_option maxHeartbeats 0
/-! V2: the hand statements of k01's great defs: where they stand, what they mean. -/
namespace LW
open PySem PySem.Spec PyProof.Rows L2 RT RZ Ev
def bodyOf : Stmt → List Stmt
  | .If _ b _ _ => b
  | .For _ _ b _ _ => b
  | _ => []
abbrev dftS : Stmt := .Pass ⟨0, 0, 0, 0⟩
abbrev sRat : Stmt := top 60
abbrev sPol : Stmt := top 61
def stA : Stmt := (bodyOf ((defBody sRat).getD 8 dftS)).getD 0 dftS
def stB : Stmt := (bodyOf ((defBody sRat).getD 11 dftS)).getD 2 dftS
def stC : List Stmt := (bodyOf ((defBody sPol).getD 13 dftS)).drop 2
def stD : List Stmt := bodyOf ((defBody sPol).getD 14 dftS)
/-- the things that _law_very finds to be the very same -/
def veryD : PyData → Bool
  | .list xs => decide (xs.length ≤ 1000)
  | .dict [] => true
  | .dict _ => false
  | d => d.canLay0 && decide (dep d ≤ 4)
def prA (ρ : Ev.Env) : Option (Out × Ev.Env) := match getE ρ 2, getE ρ 4 with
  | some (.imm d), some (.own [_, e]) => if ρ.length == 16 && ratD d && ratD e && nought e && (eqD (.list [.str "nought", e]) (.list [.str "nought", e]) == some true) then some (.next, ρ) else none
  | _, _ => none
def prB (ρ : Ev.Env) : Option (Out × Ev.Env) := match getE ρ 10, getE ρ 11 with
  | some (.imm d), some (.imm (.bool b)) => if ρ.length == 16 && b == ratD d && (b || veryD d) then some (.next, clrAll [12, 13, 14, 15] ρ) else none
  | _, _ => none
def prC (ρ : Ev.Env) : Option (Out × Ev.Env) := match getE ρ 18, getE ρ 19 with
  | some (.imm d), some (.imm (.bool b)) => if ρ.length == 24 && b == polyD d && (b || veryD d) then some (.next, clrAll [20, 21, 22, 23] ρ) else none
  | _, _ => none
def prD (ρ : Ev.Env) : Option (Out × Ev.Env) := match getE ρ 1, getE ρ 18 with
  | some (.imm e), some (.imm d) => if ρ.length == 24 && (listOf e).isSome && polyD e && !ratD d && veryD d then some (.next, clrAll [22, 23] ρ) else none
  | _, _ => none
end LW
set_option Elab.async false
set_option linter.all false
set_option maxRecDepth 100000
set_option maxHeartbeats 0
/-! printed by gen01b.py: k01's defs of the second level: all but the hand statements -/
namespace LW
open PySem PySem.Spec PyProof.Rows L2 RT RZ Ev LamX
abbrev n__law_n_ratios : List Str := ["spring", "most", "one", "other", "own", "kept", "less", "due", "told", "things", "thing", "right", "call", "query", "word", "found"]
abbrev p__law_n_ratios : List Str := ["spring"]
theorem sc__law_n_ratios : FnScope n__law_n_ratios p__law_n_ratios (defScope (top 60)) := ⟨rfl, rfl, rfl, by decide +kernel, rfl, by decide +kernel, by decide +kernel⟩
-- cells: call, one, own, thing
/-- the context of the body -/
abbrev cx__law_n_ratios (P : Program) (w : World) (K : Frag) (mg : Str → Option Value) (base : Heap) (f : Addr) (cdv : Value) (A : Around) (outer : List PySem.Env) (s : Shared) (H : Hp) (E : XK) : Cx := (cxOf CX0 P w K mg base n__law_n_ratios "_law_n_ratios" (defScope (top 60)) f cdv A outer s H E).nox
section
variable {P : Program} {w : World} {K : Frag} {mg : Str → Option Value} {base : Heap} {a : Nat → Addr} {fd : Nat → FuncData} {n : Nat} {f : Addr} {cdv : Value} {A : Around} {outer : List PySem.Env} {s : Shared} {H : Hp} {E : XK} {Tb : List (Addr × Str)} {Ap : List (Nat × Addr)} {G0 : Hp}
def i__law_n_ratios : ISs := .cons (.set 1 (.call 28 (.ref 0 (.cons (.lst (.cons (.lit (.int 1)) (.cons (.lit (.int 5)) (.cons (.lit (.int 100)) (.cons (.bin .pow (.lit (.int 10)) (.lit (.int 50))) (.nil)))))) (.nil))))) (.cons (.unp [2, 3] (.tup (.cons (.call 38 (.ref 0 (.cons (.var 1) (.nil)))) (.cons (.call 38 (.ref 0 (.cons (.var 1) (.nil)))) (.nil))))) (.cons (.set 4 (.lst (.cons (.call 31 (.ref 0 (.cons (.var 2) (.nil)))) (.cons (.call 31 (.ref 0 (.cons (.var 3) (.nil)))) (.nil))))) (.cons (.set 5 (.prim (reprV 4))) (.cons (.set 6 (.call 34 (.cons (.var 2) (.cons (.call 37 (.cons (.var 3) (.nil))) (.nil))))) (.cons (.set 7 (.lst (.cons (.call 34 (.cons (.var 2) (.cons (.var 3) (.nil)))) (.cons (.var 6) (.cons (.call 35 (.cons (.var 2) (.cons (.var 3) (.nil)))) (.nil)))))) (.cons (.set 8 (.lst (.cons (.call 10 (.cons (.idxv 4 (.lit (.int 0))) (.cons (.idxv 4 (.lit (.int 1))) (.nil)))) (.cons (.call 11 (.cons (.idxv 4 (.lit (.int 0))) (.cons (.idxv 4 (.lit (.int 1))) (.nil)))) (.cons (.call 12 (.cons (.idxv 4 (.lit (.int 0))) (.cons (.idxv 4 (.lit (.int 1))) (.nil)))) (.nil)))))) (.cons (.ite (.or (.not (.val (.call 30 (.cons (.var 8) (.cons (.var 7) (.nil)))))) (.not (.val (.call 30 (.cons (.lst (.cons (.callk 10 [1, 0] (.cons (.var 3) (.cons (.var 2) (.nil)))) (.cons (.callk 11 [1, 0] (.cons (.var 3) (.cons (.var 2) (.nil)))) (.cons (.callk 12 [1, 0] (.cons (.var 3) (.cons (.var 2) (.nil)))) (.nil))))) (.cons (.var 7) (.nil))))))) (.cons (.ret (.lit (.bool false))) (.nil)) (.nil)) (.cons (.ite (.cmp .eq (.idxv 3 (.lit (.int 0))) (.lit (.int 0))) (.cons (.prim prA) (.nil)) (.cons (.ite (.not (.val (.call 30 (.cons (.lst (.cons (.call 13 (.cons (.idxv 4 (.lit (.int 0))) (.cons (.idxv 4 (.lit (.int 1))) (.nil)))) (.cons (.callk 13 [1, 0] (.cons (.fnv .list 3) (.cons (.var 2) (.nil)))) (.nil)))) (.cons (.bin .mul (.lst (.cons (.call 36 (.cons (.var 2) (.cons (.var 3) (.nil)))) (.nil))) (.lit (.int 2))) (.nil)))))) (.cons (.ret (.lit (.bool false))) (.nil)) (.nil)) (.nil))) (.cons (.set 9 (.lst (.cons (.var 2) (.cons (.fnv .list 2) (.cons (.tup (.cons (.bin .mul (.idxv 2 (.lit (.int 0))) (.lit (.int 2))) (.cons (.bin .mul (.idxv 2 (.lit (.int 1))) (.lit (.int 2))) (.nil)))) (.cons (.tup (.cons (.idxv 2 (.lit (.int 0))) (.cons (.neg (.idxv 2 (.lit (.int 1)))) (.nil)))) (.cons (.tup (.cons (.idxv 2 (.lit (.int 0))) (.cons (.lit (.int 0)) (.nil)))) (.cons (.tup (.cons (.lit (.int 0)) (.cons (.lit (.int 2)) (.nil)))) (.cons (.tup (.cons (.lit (.int 0)) (.cons (.lit (.int 1)) (.nil)))) (.cons (.tup (.cons (.lit (.bool true)) (.cons (.lit (.int 1)) (.nil)))) (.cons (.tup (.cons (.lit (.int 1)) (.cons (.lit (.bool true)) (.nil)))) (.cons (.tup (.cons (.lit (.int 1)) (.cons (.lit .none) (.nil)))) (.nil))))))))))))) (.cons (.set 9 (.bin .add (.var 9) (.lst (.cons (.slcv 2 (.non) (.som (.lit (.int 1)))) (.cons (.bin .add (.var 2) (.slcv 2 (.non) (.som (.lit (.int 1))))) (.cons (.lit .none) (.cons (.lit (.int 0)) (.cons (.lit (.int 1)) (.cons (.lit (.str "")) (.cons (.lit (.str "12")) (.cons (.prim dct0) (.cons (.lst (.nil)) (.cons (.lst (.cons (.var 2) (.nil))) (.cons (.tup (.cons (.lit (.int 1)) (.cons (.lit (.int 2)) (.cons (.lit (.int 3)) (.nil))))) (.nil))))))))))))))) (.cons (.loop [10] (.seq (.call 32 (.cons (.var 9) (.nil)))) (.cons (.set 11 (.call 39 (.cons (.var 10) (.nil)))) (.cons (.ite (.not (.val (.call 30 (.cons (.lst (.cons (.call 4 (.cons (.var 10) (.nil))) (.cons (.callk 4 [0] (.cons (.var 10) (.nil))) (.nil)))) (.cons (.lst (.cons (.var 11) (.cons (.var 11) (.nil)))) (.nil)))))) (.cons (.ret (.lit (.bool false))) (.nil)) (.nil)) (.cons (.prim prB) (.nil))))) (.cons (.ret (.bt (.cmp .eq (.prim (reprV 4)) (.var 5)))) (.nil)))))))))))))
theorem b2__law_n_ratios (g : Good P w K mg base a fd n) (T : Txt K mg a fd) (hrepr : mg "repr" = none) (hr : Room n (A.deeper (envOfC "_law_n_ratios" (defScope (top 60)) s.heap.objs.size f cdv))) (hgd : A.guards = some []) (hnt : NoTb G0) (hio : ∀ p ∈ Ap, p.1 ∈ [0]) (qa : ∀ G0, NoTb G0 → S2 (cx__law_n_ratios P w K mg base f cdv A outer s H E) Tb Ap G0 (callN Φ n) stA (.prim prA)) (qb : ∀ G0, NoTb G0 → S2 (cx__law_n_ratios P w K mg base f cdv A outer s H E) Tb Ap G0 (callN Φ n) stB (.prim prB)) : SB2 (cx__law_n_ratios P w K mg base f cdv A outer s H E) Tb Ap G0 (callN Φ n) (defBody (top 60)) i__law_n_ratios := by
  have hu : (A.deeper (envOfC "_law_n_ratios" (defScope (top 60)) s.heap.objs.size f cdv)).units + 100 < cLine := by have := hr.un; omega
  exact (sb2_cons (s2_of fun G => (ss_set (i := 1) sc__law_n_ratios.nd (nA hio (by decide)) (se_call g.g__law_pick hr rfl T.m__law_pick T.d__law_pick.kp T.b__law_pick pass0 (sa_ref (i := 0) (sa_cons (se_lst (sa_cons se_int (sa_cons se_int (sa_cons se_int (sa_cons (se_bin br_pow se_int se_int) sa_nil))))) sa_nil))))) (sb2_cons (s2_of fun G => (ss_unp (se_tup (sa_cons (se_call g.g__law_r_drawn hr rfl T.m__law_r_drawn T.d__law_r_drawn.kp T.b__law_r_drawn pass0 (sa_ref (i := 0) (sa_cons (se_var (i := 1)) sa_nil))) (sa_cons (se_call g.g__law_r_drawn hr rfl T.m__law_r_drawn T.d__law_r_drawn.kp T.b__law_r_drawn pass0 (sa_ref (i := 0) (sa_cons (se_var (i := 1)) sa_nil))) sa_nil))) (sp_tup rfl (sps_cons (i := 2) sc__law_n_ratios.nd (nA hio (by decide)) (sps_cons (i := 3) sc__law_n_ratios.nd (nA hio (by decide)) sps_nil))))) (sb2_cons (s2_of fun G => (ss_set (i := 4) sc__law_n_ratios.nd (nA hio (by decide)) (se_lst (sa_cons (se_call g.g__law_loose hr rfl T.m__law_loose T.d__law_loose.kp T.b__law_loose pass0 (sa_ref (i := 0) (sa_cons (se_var (i := 2)) sa_nil))) (sa_cons (se_call g.g__law_loose hr rfl T.m__law_loose T.d__law_loose.kp T.b__law_loose pass0 (sa_ref (i := 0) (sa_cons (se_var (i := 3)) sa_nil))) sa_nil))))) (sb2_cons (s2_of fun G => (ss_set (i := 5) sc__law_n_ratios.nd (nA hio (by decide)) (se_reprV (i := 4) hgd hu hrepr))) (sb2_cons (s2_of fun G => (ss_set (i := 6) sc__law_n_ratios.nd (nA hio (by decide)) (se_call g.g__law_r_sum hr rfl T.m__law_r_sum T.d__law_r_sum.kp T.b__law_r_sum pass0 (sa_cons (se_var (i := 2)) (sa_cons (se_call g.g__law_r_minus hr rfl T.m__law_r_minus T.d__law_r_minus.kp T.b__law_r_minus pass0 (sa_cons (se_var (i := 3)) sa_nil)) sa_nil))))) (sb2_cons (s2_of fun G => (ss_set (i := 7) sc__law_n_ratios.nd (nA hio (by decide)) (se_lst (sa_cons (se_call g.g__law_r_sum hr rfl T.m__law_r_sum T.d__law_r_sum.kp T.b__law_r_sum pass0 (sa_cons (se_var (i := 2)) (sa_cons (se_var (i := 3)) sa_nil))) (sa_cons (se_var (i := 6)) (sa_cons (se_call g.g__law_r_times hr rfl T.m__law_r_times T.d__law_r_times.kp T.b__law_r_times pass0 (sa_cons (se_var (i := 2)) (sa_cons (se_var (i := 3)) sa_nil))) sa_nil)))))) (sb2_cons (s2_of fun G => (ss_set (i := 8) sc__law_n_ratios.nd (nA hio (by decide)) (se_lst (sa_cons (se_call g.g_ratio_sum hr rfl T.m_ratio_sum T.d_ratio_sum.kp T.b_ratio_sum pass0 (sa_cons (se_idxv (i := 4) se_int) (sa_cons (se_idxv (i := 4) se_int) sa_nil))) (sa_cons (se_call g.g_ratio_less hr rfl T.m_ratio_less T.d_ratio_less.kp T.b_ratio_less pass0 (sa_cons (se_idxv (i := 4) se_int) (sa_cons (se_idxv (i := 4) se_int) sa_nil))) (sa_cons (se_call g.g_ratio_times hr rfl T.m_ratio_times T.d_ratio_times.kp T.b_ratio_times pass0 (sa_cons (se_idxv (i := 4) se_int) (sa_cons (se_idxv (i := 4) se_int) sa_nil))) sa_nil)))))) (sb2_cons (s2_of fun G => (ss_if (SW.st (sw_or (st_not (st_val (se_call g.g__law_same hr rfl T.m__law_same T.d__law_same.kp T.b__law_same pass0 (sa_cons (se_var (i := 8)) (sa_cons (se_var (i := 7)) sa_nil))))) (sw_or1 (st_not (st_val (se_call g.g__law_same hr rfl T.m__law_same T.d__law_same.kp T.b__law_same pass0 (sa_cons (se_lst (sa_cons (se_callk (pm := [1, 0]) g.g_ratio_sum hr rfl T.m_ratio_sum T.d_ratio_sum.kp (kb0 (ks := ["other", "one"]) (pm := [1, 0]) T.d_ratio_sum fun _ _ _ _ _ _ ws hl => match ws, hl with | [_, _], _ => rfl) pass0 (skw_cons (se_var (i := 3)) (skw_cons (se_var (i := 2)) skw_nil))) (sa_cons (se_callk (pm := [1, 0]) g.g_ratio_less hr rfl T.m_ratio_less T.d_ratio_less.kp (kb0 (ks := ["other", "one"]) (pm := [1, 0]) T.d_ratio_less fun _ _ _ _ _ _ ws hl => match ws, hl with | [_, _], _ => rfl) pass0 (skw_cons (se_var (i := 3)) (skw_cons (se_var (i := 2)) skw_nil))) (sa_cons (se_callk (pm := [1, 0]) g.g_ratio_times hr rfl T.m_ratio_times T.d_ratio_times.kp (kb0 (ks := ["other", "one"]) (pm := [1, 0]) T.d_ratio_times fun _ _ _ _ _ _ ws hl => match ws, hl with | [_, _], _ => rfl) pass0 (skw_cons (se_var (i := 3)) (skw_cons (se_var (i := 2)) skw_nil))) sa_nil)))) (sa_cons (se_var (i := 7)) sa_nil)))))))) (sb_cons (ss_ret se_bl) sb_nil) sb_nil)) (sb2_cons (s2_if (fun G => (st_cmp (cm_eq hr.units) (se_idxv (i := 3) se_int) se_int (nomark _))) (sb2_cons (qa _ hnt) sb2_nil) (sb2_cons (s2_of fun G => (ss_if (st_not (st_val (se_call g.g__law_same hr rfl T.m__law_same T.d__law_same.kp T.b__law_same pass0 (sa_cons (se_lst (sa_cons (se_call g.g_ratio_over hr rfl T.m_ratio_over T.d_ratio_over.kp T.b_ratio_over pass0 (sa_cons (se_idxv (i := 4) se_int) (sa_cons (se_idxv (i := 4) se_int) sa_nil))) (sa_cons (se_callk (pm := [1, 0]) g.g_ratio_over hr rfl T.m_ratio_over T.d_ratio_over.kp (kb0 (ks := ["other", "one"]) (pm := [1, 0]) T.d_ratio_over fun _ _ _ _ _ _ ws hl => match ws, hl with | [_, _], _ => rfl) pass0 (skw_cons (se_fnvT (i := 3) bl_list rfl T.f_list PyProof.Rows.boot_list) (skw_cons (se_var (i := 2)) skw_nil))) sa_nil))) (sa_cons (se_bin br_mul (se_lst (sa_cons (se_call g.g__law_r_over hr rfl T.m__law_r_over T.d__law_r_over.kp T.b__law_r_over pass0 (sa_cons (se_var (i := 2)) (sa_cons (se_var (i := 3)) sa_nil))) sa_nil)) se_int) sa_nil))))) (sb_cons (ss_ret se_bl) sb_nil) sb_nil)) sb2_nil)) (sb2_cons (s2_of fun G => (ss_set (i := 9) sc__law_n_ratios.nd (nA hio (by decide)) (se_lst (sa_cons (se_var (i := 2)) (sa_cons (se_fnvT (i := 2) bl_list rfl T.f_list PyProof.Rows.boot_list) (sa_cons (se_tup (sa_cons (se_bin br_mul (se_idxv (i := 2) se_int) se_int) (sa_cons (se_bin br_mul (se_idxv (i := 2) se_int) se_int) sa_nil))) (sa_cons (se_tup (sa_cons (se_idxv (i := 2) se_int) (sa_cons (se_neg (se_idxv (i := 2) se_int)) sa_nil))) (sa_cons (se_tup (sa_cons (se_idxv (i := 2) se_int) (sa_cons se_int sa_nil))) (sa_cons (se_tup (sa_cons se_int (sa_cons se_int sa_nil))) (sa_cons (se_tup (sa_cons se_int (sa_cons se_int sa_nil))) (sa_cons (se_tup (sa_cons se_bl (sa_cons se_int sa_nil))) (sa_cons (se_tup (sa_cons se_int (sa_cons se_bl sa_nil))) (sa_cons (se_tup (sa_cons se_int (sa_cons se_non sa_nil))) sa_nil))))))))))))) (sb2_cons (s2_of fun G => (ss_set (i := 9) sc__law_n_ratios.nd (nA hio (by decide)) (se_bin br_add (se_var (i := 9)) (se_lst (sa_cons (se_slcv (i := 2) so_none (so_some se_int)) (sa_cons (se_bin br_add (se_var (i := 2)) (se_slcv (i := 2) so_none (so_some se_int))) (sa_cons se_non (sa_cons se_int (sa_cons se_int (sa_cons se_str (sa_cons se_str (sa_cons se_dct0 (sa_cons (se_lst sa_nil) (sa_cons (se_lst (sa_cons (se_var (i := 2)) sa_nil)) (sa_cons (se_tup (sa_cons se_int (sa_cons se_int (sa_cons se_int sa_nil)))) sa_nil))))))))))))))) (sb2_cons (s2_for hnt PassesOwn.never rfl (fun G => (sg_seq (se_call g.g__law_b_copy hr rfl T.m__law_b_copy T.d__law_b_copy.kp T.b__law_b_copy pass0 (sa_cons (se_var (i := 9)) sa_nil)))) (sp_name (i := 10) sc__law_n_ratios.nd (nA hio (by decide))) (fun G0 hnt => (sb2_cons (s2_of fun G => (ss_set (i := 11) sc__law_n_ratios.nd (nA hio (by decide)) (se_call g.g__law_r_is hr rfl T.m__law_r_is T.d__law_r_is.kp T.b__law_r_is pass0 (sa_cons (se_var (i := 10)) sa_nil)))) (sb2_cons (s2_of fun G => (ss_if (st_not (st_val (se_call g.g__law_same hr rfl T.m__law_same T.d__law_same.kp T.b__law_same pass0 (sa_cons (se_lst (sa_cons (se_call g.g_is_ratio hr rfl T.m_is_ratio T.d_is_ratio.kp T.b_is_ratio pass0 (sa_cons (se_var (i := 10)) sa_nil)) (sa_cons (se_callk (pm := [0]) g.g_is_ratio hr rfl T.m_is_ratio T.d_is_ratio.kp (kb0 (ks := ["thing"]) (pm := [0]) T.d_is_ratio fun _ _ _ _ _ _ ws hl => match ws, hl with | [_], _ => rfl) pass0 (skw_cons (se_var (i := 10)) skw_nil)) sa_nil))) (sa_cons (se_lst (sa_cons (se_var (i := 11)) (sa_cons (se_var (i := 11)) sa_nil))) sa_nil))))) (sb_cons (ss_ret se_bl) sb_nil) sb_nil)) (sb2_cons (qb _ hnt) sb2_nil))))) (sb2_cons (s2_of fun G => (ss_ret (se_bt (sb_cmp (cm_eq hr.units) (se_reprV (i := 4) hgd hu hrepr) (se_var (i := 5)) (nomark _))))) sb2_nil)))))))))))))
end
abbrev n__law_n_polys : List Str := ["spring", "one", "other", "ratio", "own", "many", "kept", "rest", "here", "due", "side", "at", "told", "again", "worth", "entry_v", "row", "things", "thing", "right", "calls", "query", "word", "found"]
abbrev p__law_n_polys : List Str := ["spring"]
theorem sc__law_n_polys : FnScope n__law_n_polys p__law_n_polys (defScope (top 61)) := ⟨rfl, rfl, rfl, by decide +kernel, rfl, by decide +kernel, by decide +kernel⟩
-- cells: many, one, side, thing
/-- the context of the body -/
abbrev cx__law_n_polys (P : Program) (w : World) (K : Frag) (mg : Str → Option Value) (base : Heap) (f : Addr) (cdv : Value) (A : Around) (outer : List PySem.Env) (s : Shared) (H : Hp) (E : XK) : Cx := (cxOf CX0 P w K mg base n__law_n_polys "_law_n_polys" (defScope (top 61)) f cdv A outer s H E).nox
section
variable {P : Program} {w : World} {K : Frag} {mg : Str → Option Value} {base : Heap} {a : Nat → Addr} {fd : Nat → FuncData} {n : Nat} {f : Addr} {cdv : Value} {A : Around} {outer : List PySem.Env} {s : Shared} {H : Hp} {E : XK} {Tb : List (Addr × Str)} {Ap : List (Nat × Addr)} {G0 : Hp}
def i__law_n_polys1 : ISs := .cons (.unp [1, 2, 3] (.tup (.cons (.call 43 (.ref 0 (.nil))) (.cons (.call 43 (.ref 0 (.nil))) (.cons (.call 38 (.ref 0 (.cons (.lit (.int 5)) (.nil)))) (.nil)))))) (.cons (.unp [4, 5] (.tup (.cons (.lst (.cons (.call 31 (.ref 0 (.cons (.var 1) (.nil)))) (.cons (.call 31 (.ref 0 (.cons (.var 2) (.nil)))) (.nil)))) (.cons (.fn .max (.cons (.fnv .len 1) (.cons (.fnv .len 2) (.nil)))) (.nil))))) (.cons (.par [6, 7] (.cons (.prim (reprV 4)) (.cons (.lc [8] (.seq (.var 2)) (.tt) (.call 37 (.cons (.var 8) (.nil)))) (.nil)))) (.cons (.set 9 (.lc [10] (.seq (.lst (.cons (.var 2) (.cons (.var 7) (.nil))))) (.tt) (.call 40 (.cons (.lc [11] (.rng1 (.var 5)) (.tt) (.call 34 (.cons (.call 41 (.cons (.var 1) (.cons (.var 11) (.nil)))) (.cons (.call 41 (.cons (.var 10) (.cons (.var 11) (.nil)))) (.nil))))) (.nil))))) (.cons (.set 9 (.bin .add (.var 9) (.lst (.cons (.call 40 (.cons (.call 42 (.cons (.var 1) (.cons (.var 2) (.cons (.bin .add (.fnv .len 1) (.fnv .len 2)) (.nil))))) (.nil))) (.cons (.call 40 (.cons (.slc (.lc [11, 8] (.enum (.var 1)) (.tt) (.call 35 (.cons (.var 8) (.cons (.tup (.cons (.var 11) (.cons (.lit (.int 1)) (.nil)))) (.nil))))) (.som (.lit (.int 1))) (.non)) (.nil))) (.nil)))))) (.nil)))))
theorem b2__law_n_polys1 (g : Good P w K mg base a fd n) (T : Txt K mg a fd) (hrepr : mg "repr" = none) (hr : Room n (A.deeper (envOfC "_law_n_polys" (defScope (top 61)) s.heap.objs.size f cdv))) (hgd : A.guards = some []) (hnt : NoTb G0) (hio : ∀ p ∈ Ap, p.1 ∈ [0]) : SB2 (cx__law_n_polys P w K mg base f cdv A outer s H E) Tb Ap G0 (callN Φ n) (((defBody (top 61)).drop 0).take 5) i__law_n_polys1 := by
  have hu : (A.deeper (envOfC "_law_n_polys" (defScope (top 61)) s.heap.objs.size f cdv)).units + 100 < cLine := by have := hr.un; omega
  exact (sb2_cons (s2_of fun G => (ss_unp (se_tup (sa_cons (se_call g.g__law_n_poly hr rfl T.m__law_n_poly T.d__law_n_poly.kp T.b__law_n_poly pass0 (sa_ref (i := 0) sa_nil)) (sa_cons (se_call g.g__law_n_poly hr rfl T.m__law_n_poly T.d__law_n_poly.kp T.b__law_n_poly pass0 (sa_ref (i := 0) sa_nil)) (sa_cons (se_call g.g__law_r_drawn hr rfl T.m__law_r_drawn T.d__law_r_drawn.kp T.b__law_r_drawn pass0 (sa_ref (i := 0) (sa_cons se_int sa_nil))) sa_nil)))) (sp_tup rfl (sps_cons (i := 1) sc__law_n_polys.nd (nA hio (by decide)) (sps_cons (i := 2) sc__law_n_polys.nd (nA hio (by decide)) (sps_cons (i := 3) sc__law_n_polys.nd (nA hio (by decide)) sps_nil)))))) (sb2_cons (s2_of fun G => (ss_unp (se_tup (sa_cons (se_lst (sa_cons (se_call g.g__law_loose hr rfl T.m__law_loose T.d__law_loose.kp T.b__law_loose pass0 (sa_ref (i := 0) (sa_cons (se_var (i := 1)) sa_nil))) (sa_cons (se_call g.g__law_loose hr rfl T.m__law_loose T.d__law_loose.kp T.b__law_loose pass0 (sa_ref (i := 0) (sa_cons (se_var (i := 2)) sa_nil))) sa_nil))) (sa_cons (se_fnB (bl_max rfl) rfl T.f_max PyProof.Rows.boot_max (sa_cons (se_fnvB (i := 1) bl_len rfl T.f_len PySem.boot_len) (sa_cons (se_fnvB (i := 2) bl_len rfl T.f_len PySem.boot_len) sa_nil))) sa_nil))) (sp_tup rfl (sps_cons (i := 4) sc__law_n_polys.nd (nA hio (by decide)) (sps_cons (i := 5) sc__law_n_polys.nd (nA hio (by decide)) sps_nil))))) (sb2_cons (s2_of fun G => (ss_par (i := 6) (j := 7) rfl sc__law_n_polys.nd (by decide) (nA hio (by decide)) (nA hio (by decide)) (sa_cons (se_reprV (i := 4) hgd hu hrepr) (sa_cons (se_lc (own := [("here", 8)]) rfl sc__law_n_polys.nd (sg_seq (se_var (i := 2))) (blkOk_by (own := [("here", 8)]) (show blkC n__law_n_polys (defScope (top 61)) _ [("here", 8)] = true from by decide +kernel)) (nAs hio (by decide)) (fun _ _ _ _ _ => (sp_name (i := 8) sc__law_n_polys.nd (nA hio (by decide)))) (fun _ _ _ _ _ _ => sts_nil) (fun _ _ _ _ _ _ => (se_call g.g__law_r_minus hr rfl T.m__law_r_minus T.d__law_r_minus.kp T.b__law_r_minus pass0 (sa_cons (se_var (i := 8)) sa_nil)))) sa_nil)))) (sb2_cons (s2_of fun G => (ss_setLc (i := 9) (own := [("side", 10)]) rfl sc__law_n_polys.nd (nA hio (by decide)) (sg_seq (se_lst (sa_cons (se_var (i := 2)) (sa_cons (se_var (i := 7)) sa_nil)))) (blkOk_by (own := [("side", 10)]) (show blkC n__law_n_polys (defScope (top 61)) _ [("side", 10)] = true from by decide +kernel)) (nAs hio (by decide)) (fun _ _ _ _ _ => (sp_name (i := 10) sc__law_n_polys.nd (nA hio (by decide)))) (fun _ _ _ _ _ _ => sts_nil) (fun _ _ _ _ _ _ => (se_call g.g__law_r_trimmed hr rfl T.m__law_r_trimmed T.d__law_r_trimmed.kp T.b__law_r_trimmed pass0 (sa_cons (se_lc (own := [("at", 11)]) rfl sc__law_n_polys.nd (sg_rng1 (se_var (i := 5)) T.f_range) (blkOk_by (own := [("at", 11)]) rfl) (nAs hio (by decide)) (fun _ _ _ _ _ => (sp_name (i := 11) sc__law_n_polys.nd (nA hio (by decide)))) (fun _ _ _ _ _ _ => sts_nil) (fun _ _ _ _ _ _ => (se_call g.g__law_r_sum hr rfl T.m__law_r_sum T.d__law_r_sum.kp T.b__law_r_sum pass0 (sa_cons (se_call g.g__law_r_entry hr rfl T.m__law_r_entry T.d__law_r_entry.kp T.b__law_r_entry pass0 (sa_cons (se_var (i := 1)) (sa_cons (se_var (i := 11)) sa_nil))) (sa_cons (se_call g.g__law_r_entry hr rfl T.m__law_r_entry T.d__law_r_entry.kp T.b__law_r_entry pass0 (sa_cons (se_var (i := 10)) (sa_cons (se_var (i := 11)) sa_nil))) sa_nil))))) sa_nil))) (sw_true rfl rfl rfl (by decide +kernel)))) (sb2_cons (s2_of fun G => (ss_set (i := 9) sc__law_n_polys.nd (nA hio (by decide)) (se_bin br_add (se_var (i := 9)) (se_lst (sa_cons (se_call g.g__law_r_trimmed hr rfl T.m__law_r_trimmed T.d__law_r_trimmed.kp T.b__law_r_trimmed pass0 (sa_cons (se_call g.g__law_r_product hr rfl T.m__law_r_product T.d__law_r_product.kp T.b__law_r_product pass0 (sa_cons (se_var (i := 1)) (sa_cons (se_var (i := 2)) (sa_cons (se_bin br_add (se_fnvB (i := 1) bl_len rfl T.f_len PySem.boot_len) (se_fnvB (i := 2) bl_len rfl T.f_len PySem.boot_len)) sa_nil)))) sa_nil)) (sa_cons (se_call g.g__law_r_trimmed hr rfl T.m__law_r_trimmed T.d__law_r_trimmed.kp T.b__law_r_trimmed pass0 (sa_cons (se_slc (se_lc (own := [("at", 11), ("here", 8)]) rfl sc__law_n_polys.nd (sg_enum (se_var (i := 1)) T.f_enumerate) (blkOk_by (own := [("at", 11), ("here", 8)]) (show blkC n__law_n_polys (defScope (top 61)) _ [("at", 11), ("here", 8)] = true from by decide +kernel)) (nAs hio (by decide)) (fun _ _ _ _ _ => (sp_tup rfl (sps_cons (i := 11) sc__law_n_polys.nd (nA hio (by decide)) (sps_cons (i := 8) sc__law_n_polys.nd (nA hio (by decide)) sps_nil)))) (fun _ _ _ _ _ _ => sts_nil) (fun _ _ _ _ _ _ => (se_call g.g__law_r_times hr rfl T.m__law_r_times T.d__law_r_times.kp T.b__law_r_times pass0 (sa_cons (se_var (i := 8)) (sa_cons (se_tup (sa_cons (se_var (i := 11)) (sa_cons se_int sa_nil))) sa_nil))))) (so_some se_int) so_none) sa_nil)) sa_nil)))))) sb2_nil)))))
def i__law_n_polys2 : ISs := .cons (.set 13 (.lst (.cons (.callk 22 [1, 0] (.cons (.fnv .list 2) (.cons (.fnv .list 1) (.nil)))) (.cons (.callk 23 [1, 0] (.cons (.fnv .list 2) (.cons (.fnv .list 1) (.nil)))) (.cons (.callk 24 [1, 0] (.cons (.fnv .list 2) (.cons (.fnv .list 1) (.nil)))) (.cons (.callk 25 [0] (.cons (.fnv .list 1) (.nil))) (.nil))))))) (.cons (.ite (.or (.not (.val (.call 30 (.cons (.var 12) (.cons (.var 9) (.nil)))))) (.not (.val (.call 30 (.cons (.var 13) (.cons (.var 9) (.nil))))))) (.cons (.ret (.lit (.bool false))) (.nil)) (.nil)) (.cons (.unp [14, 8] (.tup (.cons (.tup (.cons (.lit (.int 0)) (.cons (.lit (.int 1)) (.nil)))) (.cons (.tup (.cons (.lit (.int 1)) (.cons (.lit (.int 1)) (.nil)))) (.nil))))) (.cons (.loop [15] (.seq (.var 1)) (.cons (.par [14, 8] (.cons (.call 34 (.cons (.var 14) (.cons (.call 35 (.cons (.var 15) (.cons (.var 8) (.nil)))) (.nil)))) (.cons (.call 35 (.cons (.var 8) (.cons (.var 3) (.nil)))) (.nil)))) (.nil))) (.cons (.ite (.or (.not (.val (.call 30 (.cons (.lst (.cons (.call 26 (.cons (.idxv 4 (.lit (.int 0))) (.cons (.call 31 (.ref 0 (.cons (.var 3) (.nil)))) (.nil)))) (.cons (.callk 26 [1, 0] (.cons (.var 3) (.cons (.fnv .list 1) (.nil)))) (.nil)))) (.cons (.lst (.cons (.var 14) (.cons (.var 14) (.nil)))) (.nil)))))) (.cmp .ne (.prim (reprV 4)) (.var 6))) (.cons (.ret (.lit (.bool false))) (.nil)) (.nil)) (.nil)))))
theorem b2__law_n_polys2 (g : Good P w K mg base a fd n) (T : Txt K mg a fd) (hrepr : mg "repr" = none) (hr : Room n (A.deeper (envOfC "_law_n_polys" (defScope (top 61)) s.heap.objs.size f cdv))) (hgd : A.guards = some []) (hnt : NoTb G0) (hio : ∀ p ∈ Ap, p.1 ∈ [0, 1, 12]) : SB2 (cx__law_n_polys P w K mg base f cdv A outer s H E) Tb Ap G0 (callN Φ n) (((defBody (top 61)).drop 6).take 5) i__law_n_polys2 := by
  have hu : (A.deeper (envOfC "_law_n_polys" (defScope (top 61)) s.heap.objs.size f cdv)).units + 100 < cLine := by have := hr.un; omega
  exact (sb2_cons (s2_of fun G => (ss_set (i := 13) sc__law_n_polys.nd (nA hio (by decide)) (se_lst (sa_cons (se_callk (pm := [1, 0]) g.g_poly_sum hr rfl T.m_poly_sum T.d_poly_sum.kp (kb0 (ks := ["other", "one"]) (pm := [1, 0]) T.d_poly_sum fun _ _ _ _ _ _ ws hl => match ws, hl with | [_, _], _ => rfl) pass0 (skw_cons (se_fnvT (i := 2) bl_list rfl T.f_list PyProof.Rows.boot_list) (skw_cons (se_fnvT (i := 1) bl_list rfl T.f_list PyProof.Rows.boot_list) skw_nil))) (sa_cons (se_callk (pm := [1, 0]) g.g_poly_less hr rfl T.m_poly_less T.d_poly_less.kp (kb0 (ks := ["other", "one"]) (pm := [1, 0]) T.d_poly_less fun _ _ _ _ _ _ ws hl => match ws, hl with | [_, _], _ => rfl) pass0 (skw_cons (se_fnvT (i := 2) bl_list rfl T.f_list PyProof.Rows.boot_list) (skw_cons (se_fnvT (i := 1) bl_list rfl T.f_list PyProof.Rows.boot_list) skw_nil))) (sa_cons (se_callk (pm := [1, 0]) g.g_poly_times hr rfl T.m_poly_times T.d_poly_times.kp (kb0 (ks := ["other", "one"]) (pm := [1, 0]) T.d_poly_times fun _ _ _ _ _ _ ws hl => match ws, hl with | [_, _], _ => rfl) pass0 (skw_cons (se_fnvT (i := 2) bl_list rfl T.f_list PyProof.Rows.boot_list) (skw_cons (se_fnvT (i := 1) bl_list rfl T.f_list PyProof.Rows.boot_list) skw_nil))) (sa_cons (se_callk (pm := [0]) g.g_poly_derived hr rfl T.m_poly_derived T.d_poly_derived.kp (kb0 (ks := ["one"]) (pm := [0]) T.d_poly_derived fun _ _ _ _ _ _ ws hl => match ws, hl with | [_], _ => rfl) pass0 (skw_cons (se_fnvT (i := 1) bl_list rfl T.f_list PyProof.Rows.boot_list) skw_nil)) sa_nil))))))) (sb2_cons (s2_of fun G => (ss_if (SW.st (sw_or (st_not (st_val (se_call g.g__law_same hr rfl T.m__law_same T.d__law_same.kp T.b__law_same pass0 (sa_cons (se_var (i := 12)) (sa_cons (se_var (i := 9)) sa_nil))))) (sw_or1 (st_not (st_val (se_call g.g__law_same hr rfl T.m__law_same T.d__law_same.kp T.b__law_same pass0 (sa_cons (se_var (i := 13)) (sa_cons (se_var (i := 9)) sa_nil)))))))) (sb_cons (ss_ret se_bl) sb_nil) sb_nil)) (sb2_cons (s2_of fun G => (ss_unp (se_tup (sa_cons (se_tup (sa_cons se_int (sa_cons se_int sa_nil))) (sa_cons (se_tup (sa_cons se_int (sa_cons se_int sa_nil))) sa_nil))) (sp_tup rfl (sps_cons (i := 14) sc__law_n_polys.nd (nA hio (by decide)) (sps_cons (i := 8) sc__law_n_polys.nd (nA hio (by decide)) sps_nil))))) (sb2_cons (s2_of fun G => (ss_for PassesOwn.never rfl (sg_seq (se_var (i := 1))) (sp_name (i := 15) sc__law_n_polys.nd (nA hio (by decide))) (sb_cons (ss_par (i := 14) (j := 8) rfl sc__law_n_polys.nd (by decide) (nA hio (by decide)) (nA hio (by decide)) (sa_cons (se_call g.g__law_r_sum hr rfl T.m__law_r_sum T.d__law_r_sum.kp T.b__law_r_sum pass0 (sa_cons (se_var (i := 14)) (sa_cons (se_call g.g__law_r_times hr rfl T.m__law_r_times T.d__law_r_times.kp T.b__law_r_times pass0 (sa_cons (se_var (i := 15)) (sa_cons (se_var (i := 8)) sa_nil))) sa_nil))) (sa_cons (se_call g.g__law_r_times hr rfl T.m__law_r_times T.d__law_r_times.kp T.b__law_r_times pass0 (sa_cons (se_var (i := 8)) (sa_cons (se_var (i := 3)) sa_nil))) sa_nil))) sb_nil))) (sb2_cons (s2_of fun G => (ss_if (SW.st (sw_or (st_not (st_val (se_call g.g__law_same hr rfl T.m__law_same T.d__law_same.kp T.b__law_same pass0 (sa_cons (se_lst (sa_cons (se_call g.g_poly_at hr rfl T.m_poly_at T.d_poly_at.kp T.b_poly_at pass0 (sa_cons (se_idxv (i := 4) se_int) (sa_cons (se_call g.g__law_loose hr rfl T.m__law_loose T.d__law_loose.kp T.b__law_loose pass0 (sa_ref (i := 0) (sa_cons (se_var (i := 3)) sa_nil))) sa_nil))) (sa_cons (se_callk (pm := [1, 0]) g.g_poly_at hr rfl T.m_poly_at T.d_poly_at.kp (kb0 (ks := ["ratio", "one"]) (pm := [1, 0]) T.d_poly_at fun _ _ _ _ _ _ ws hl => match ws, hl with | [_, _], _ => rfl) pass0 (skw_cons (se_var (i := 3)) (skw_cons (se_fnvT (i := 1) bl_list rfl T.f_list PyProof.Rows.boot_list) skw_nil))) sa_nil))) (sa_cons (se_lst (sa_cons (se_var (i := 14)) (sa_cons (se_var (i := 14)) sa_nil))) sa_nil))))) (sw_or1 (st_cmp (cm_ne hr.units) (se_reprV (i := 4) hgd hu hrepr) (se_var (i := 6)) (nomark _))))) (sb_cons (ss_ret se_bl) sb_nil) sb_nil)) sb2_nil)))))
def i__law_n_polys3 : ISs := .cons (.set 17 (.lst (.cons (.fnv .list 1) (.cons (.fnv .tuple 1) (.cons (.bin .add (.var 1) (.lst (.cons (.tup (.cons (.lit (.int 0)) (.cons (.lit (.int 1)) (.nil)))) (.nil)))) (.cons (.bin .add (.var 1) (.lst (.cons (.tup (.cons (.lit (.int 2)) (.cons (.lit (.int 2)) (.nil)))) (.nil)))) (.cons (.bin .add (.var 1) (.lst (.cons (.lit .none) (.nil)))) (.cons (.bin .add (.var 1) (.lst (.cons (.lit (.int 0)) (.nil)))) (.cons (.lst (.cons (.tup (.cons (.lit (.int 0)) (.cons (.lit (.int 1)) (.nil)))) (.nil))) (.cons (.bin .mul (.lst (.cons (.tup (.cons (.lit (.int 1)) (.cons (.lit (.int 1)) (.nil)))) (.nil))) (.lit (.int 100))) (.cons (.bin .mul (.lst (.cons (.tup (.cons (.lit (.int 1)) (.cons (.lit (.int 1)) (.nil)))) (.nil))) (.lit (.int 101))) (.cons (.lit .none) (.cons (.lit (.int 0)) (.cons (.lit (.str "")) (.cons (.lit (.str "1")) (.cons (.prim dct0) (.cons (.tup (.cons (.lit (.int 1)) (.cons (.lit (.int 1)) (.nil)))) (.cons (.lst (.cons (.lst (.cons (.lit (.int 1)) (.cons (.lit (.int 1)) (.nil)))) (.nil))) (.cons (.lst (.cons (.tup (.cons (.lit (.int 1)) (.cons (.lit (.int 0)) (.nil)))) (.nil))) (.nil)))))))))))))))))))) (.cons (.loop [18] (.seq (.call 32 (.cons (.var 17) (.nil)))) (.cons (.set 19 (.call 44 (.cons (.var 18) (.nil)))) (.cons (.ite (.not (.val (.call 30 (.cons (.lst (.cons (.call 14 (.cons (.var 18) (.nil))) (.cons (.callk 14 [0] (.cons (.var 18) (.nil))) (.nil)))) (.cons (.lst (.cons (.var 19) (.cons (.var 19) (.nil)))) (.nil)))))) (.cons (.ret (.lit (.bool false))) (.nil)) (.nil)) (.cons (.prim prC) .nil)))) (.cons (.loop [18] (.seq (.lst (.cons (.lit .none) (.cons (.lit (.int 0)) (.cons (.tup (.cons (.lit (.int 2)) (.cons (.lit (.int 4)) (.nil)))) (.cons (.lit (.str "1")) (.nil))))))) (.cons (.prim prD) .nil)) (.cons (.ret (.lit (.bool true))) (.nil))))
theorem b2__law_n_polys3 (g : Good P w K mg base a fd n) (T : Txt K mg a fd) (hrepr : mg "repr" = none) (hr : Room n (A.deeper (envOfC "_law_n_polys" (defScope (top 61)) s.heap.objs.size f cdv))) (hgd : A.guards = some []) (hnt : NoTb G0) (hio : ∀ p ∈ Ap, p.1 ∈ [0]) (qc : ∀ G0, NoTb G0 → SB2 (cx__law_n_polys P w K mg base f cdv A outer s H E) Tb Ap G0 (callN Φ n) stC (.cons (.prim prC) .nil)) (qd : ∀ G0, NoTb G0 → SB2 (cx__law_n_polys P w K mg base f cdv A outer s H E) Tb Ap G0 (callN Φ n) stD (.cons (.prim prD) .nil)) : SB2 (cx__law_n_polys P w K mg base f cdv A outer s H E) Tb Ap G0 (callN Φ n) ((defBody (top 61)).drop 12) i__law_n_polys3 := by
  have hu : (A.deeper (envOfC "_law_n_polys" (defScope (top 61)) s.heap.objs.size f cdv)).units + 100 < cLine := by have := hr.un; omega
  exact (sb2_cons (s2_of fun G => (ss_set (i := 17) sc__law_n_polys.nd (nA hio (by decide)) (se_lst (sa_cons (se_fnvT (i := 1) bl_list rfl T.f_list PyProof.Rows.boot_list) (sa_cons (se_fnvT (i := 1) bl_tuple rfl T.f_tuple PyProof.Rows.boot_tuple) (sa_cons (se_bin br_add (se_var (i := 1)) (se_lst (sa_cons (se_tup (sa_cons se_int (sa_cons se_int sa_nil))) sa_nil))) (sa_cons (se_bin br_add (se_var (i := 1)) (se_lst (sa_cons (se_tup (sa_cons se_int (sa_cons se_int sa_nil))) sa_nil))) (sa_cons (se_bin br_add (se_var (i := 1)) (se_lst (sa_cons se_non sa_nil))) (sa_cons (se_bin br_add (se_var (i := 1)) (se_lst (sa_cons se_int sa_nil))) (sa_cons (se_lst (sa_cons (se_tup (sa_cons se_int (sa_cons se_int sa_nil))) sa_nil)) (sa_cons (se_bin br_mul (se_lst (sa_cons (se_tup (sa_cons se_int (sa_cons se_int sa_nil))) sa_nil)) se_int) (sa_cons (se_bin br_mul (se_lst (sa_cons (se_tup (sa_cons se_int (sa_cons se_int sa_nil))) sa_nil)) se_int) (sa_cons se_non (sa_cons se_int (sa_cons se_str (sa_cons se_str (sa_cons se_dct0 (sa_cons (se_tup (sa_cons se_int (sa_cons se_int sa_nil))) (sa_cons (se_lst (sa_cons (se_lst (sa_cons se_int (sa_cons se_int sa_nil))) sa_nil)) (sa_cons (se_lst (sa_cons (se_tup (sa_cons se_int (sa_cons se_int sa_nil))) sa_nil)) sa_nil)))))))))))))))))))) (sb2_cons (s2_for hnt PassesOwn.never rfl (fun G => (sg_seq (se_call g.g__law_b_copy hr rfl T.m__law_b_copy T.d__law_b_copy.kp T.b__law_b_copy pass0 (sa_cons (se_var (i := 17)) sa_nil)))) (sp_name (i := 18) sc__law_n_polys.nd (nA hio (by decide))) (fun G0 hnt => (sb2_cons (s2_of fun G => (ss_set (i := 19) sc__law_n_polys.nd (nA hio (by decide)) (se_call g.g__law_n_is hr rfl T.m__law_n_is T.d__law_n_is.kp T.b__law_n_is pass0 (sa_cons (se_var (i := 18)) sa_nil)))) (sb2_cons (s2_of fun G => (ss_if (st_not (st_val (se_call g.g__law_same hr rfl T.m__law_same T.d__law_same.kp T.b__law_same pass0 (sa_cons (se_lst (sa_cons (se_call g.g_is_poly hr rfl T.m_is_poly T.d_is_poly.kp T.b_is_poly pass0 (sa_cons (se_var (i := 18)) sa_nil)) (sa_cons (se_callk (pm := [0]) g.g_is_poly hr rfl T.m_is_poly T.d_is_poly.kp (kb0 (ks := ["thing"]) (pm := [0]) T.d_is_poly fun _ _ _ _ _ _ ws hl => match ws, hl with | [_], _ => rfl) pass0 (skw_cons (se_var (i := 18)) skw_nil)) sa_nil))) (sa_cons (se_lst (sa_cons (se_var (i := 19)) (sa_cons (se_var (i := 19)) sa_nil))) sa_nil))))) (sb_cons (ss_ret se_bl) sb_nil) sb_nil)) (qc _ hnt))))) (sb2_cons (s2_for hnt PassesOwn.never rfl (fun G => (sg_seq (se_lst (sa_cons se_non (sa_cons se_int (sa_cons (se_tup (sa_cons se_int (sa_cons se_int sa_nil))) (sa_cons se_str sa_nil))))))) (sp_name (i := 18) sc__law_n_polys.nd (nA hio (by decide))) (fun G0 hnt => (qd _ hnt))) (sb2_cons (s2_of fun G => (ss_ret se_bl)) sb2_nil))))
end
end LW
set_option Elab.async false
set_option linter.all false
set_option maxRecDepth 100000
set_option maxHeartbeats 0
/-! V4: _law_very(v, v) in one promise. -/
namespace LW
open PySem PySem.Spec PyProof.Rows L2 RT RZ Ev LamX LamD
def spVery (K : Frag) : Sp := fun vs H Q _ => ∃ v d F, vs = [v, v] ∧ Same F H ∧ Dn K F v d ∧ veryD d = true ∧ ∀ H', Same H H' → Q (.bl true) H'
theorem very_plain {n : Nat} {d : PyData} (h : veryD d = true) (h1 : ∀ xs, d ≠ .list xs) (h2 : ∀ xs, d ≠ .dict xs) : callN Φ (n + 6) 45 [.imm d, .imm d] = some (.imm (.bool true), []) := by
  have key : d.canLay0 = true ∧ dep d ≤ 4 := by
    cases d with
    | list xs => exact absurd rfl (h1 xs)
    | dict xs => exact absurd rfl (h2 xs)
    | _ => simpa [veryD] using h
  have hs := same_ok 4 n d key.1 key.2
  cases d with
  | list xs => exact absurd rfl (h1 xs)
  | dict xs => exact absurd rfl (h2 xs)
  | _ =>
    rw [callN_code h__law_very rfl rfl]
    simp -implicitDefEqProofs [i__law_very, isiD, isi1, kindD, hs, show cmpD .isN .none .none = some true from rfl]
section
variable {P : Program} {w : World} {K : Frag} {mg : Str → Option Value} {base : Heap} {a : Nat → Addr} {fd : Nat → FuncData} {n : Nat}
theorem plain {v : V} {d : PyData} {F H : Hp} {Q : VK} {E : XK} (dn : Dn K F v d) (hv : veryD d = true) (h1 : ∀ xs, d ≠ .list xs) (h2 : ∀ xs, d ≠ .dict xs) (sF : Same F H) (hq : ∀ H', Same H H' → Q (.bl true) H') : spF K (callN Φ (n + 6)) 45 2 [v, v] H Q E := by
  have e : ows [v, v] [.imm d, .imm d] = [] := by cases v <;> rfl
  refine ⟨F, [.imm d, .imm d], .imm (.bool true), [], sF, .imm dn (.imm dn .nil), by rw [e]; exact List.nodup_nil, rfl, very_plain hv h1 h2, fun v' H' F' R => ?_⟩
  have hr := R.res
  cases hr
  exact hq H' fun b x h => R.frm b x h (by rw [e]; simp)
theorem very_ok (g : Good P w K mg base a fd (n + 6)) (T : Txt K mg a fd) : FnOk P w K mg base CX0 (n + 6) (a 45) (fd 45) p__law_very (spVery K) := by
  have Fl := very_list (P := P) (w := w) (base := base) (n := n + 5) T T.d__law_very
  have Fd := very_dct (P := P) (w := w) (base := base) (n := n + 5) T T.f_dict T.d__law_very
  refine ⟨fun vs H Q E h => ?_, fun A outer s H args us vs Q E hr e0 hb r h => ?_⟩
  · obtain ⟨v, d, F, rfl, _⟩ := h
    rfl
  · obtain ⟨v, d, F, rfl, sF, dn, hv, hq⟩ := h
    cases dn with
    | lst h1 h2 => exact Fl.run A outer s H args us _ Q E hr e0 hb r ⟨_, _, rfl, sF _ _ h1, by have := h2.len; have hv : decide _ = true := hv; rw [decide_eq_true_eq] at hv; rw [sizeLine_eq]; omega, hq H (.refl _)⟩
    | dct h1 h2 h3 =>
      cases h2 with
      | nil => exact Fd.run A outer s H args us _ Q E hr e0 hb r ⟨_, rfl, sF _ _ h1, hq H (.refl _)⟩
      | cons _ _ =>
        subst h3
        simp [veryD] at hv
    | non => exact (g.g__law_very).run A outer s H args us _ Q E hr e0 hb r (plain (.non) hv (fun _ z => by cases z) (fun _ z => by cases z) sF hq)
    | bl b => exact (g.g__law_very).run A outer s H args us _ Q E hr e0 hb r (plain (.bl b) hv (fun _ z => by cases z) (fun _ z => by cases z) sF hq)
    | int i => exact (g.g__law_very).run A outer s H args us _ Q E hr e0 hb r (plain (.int i) hv (fun _ z => by cases z) (fun _ z => by cases z) sF hq)
    | str x => exact (g.g__law_very).run A outer s H args us _ Q E hr e0 hb r (plain (.str x) hv (fun _ z => by cases z) (fun _ z => by cases z) sF hq)
    | tup h1 h2 => exact (g.g__law_very).run A outer s H args us _ Q E hr e0 hb r (plain (.tup h1 h2) hv (fun _ z => by cases z) (fun _ z => by cases z) sF hq)
end
end LW
set_option Elab.async false
set_option linter.all false
set_option maxRecDepth 100000
set_option maxHeartbeats 0
/-! V5: word, found = _law_n_met(..); the lambdas of _law_n_ratios. -/
namespace LW
open PySem PySem.Spec PyProof.Rows L2 RT RZ Ev LamX LamD SupX
/-- behind met: the word is right, what was found is the very thing -/
def tAsk (K : Frag) (W : Str) (iW iF iT : Nat) (rb : TS) : TS := tSeq (tIfS (tOr (tTest (tOp rNe (tVar iW) (tC (.str W)))) (tNot (tB (tCall (spVery K) [] E0 (tCons (tVar iF) (tCons (tVar iT) tNil)))))) rb tNext) tNext
theorem metStep {K : Frag} {T : List (Addr × Str)} {A : List (Nat × Addr)} {G0 H H1 : Hp} {σ : L2.St} {ρ : Ev.Env} {W : Str} {iW iF iT : Nat} {rb : TS} {D : Ends} {d : PyData} {v : V} {p : Addr} (R : R2 K T A G0 H σ ρ) (hn : NoTb G0) (hW : getE ρ iW = none) (hF : getE ρ iF = none) (hT : getE ρ iT = some (.imm d)) (hv : veryD d = true)
    (hA : ∀ q ∈ A, q.1 ≠ iW ∧ q.1 ≠ iF) (l1 : iW < σ.length) (l2 : iF < σ.length) (hne : iW ≠ iF) (hs : σ[iT]? = some (some v)) (e : ExtN H H1) (t : Tabs T H1) (hp : H1 p = none) (hD : ∀ σ' H', R2 K T A G0 H' σ' ρ → D.nx σ' H') :
    gLst K 2 (gCons (gName iW) (gCons (gName iF) gNil)) (.ref p) σ (upd H1 p (.lst [.str W, v])) (fun σ2 H2 => tAsk K W iW iF iT rb D σ2 H2) := by
  have nT1 : iW ≠ iT := fun z => by rw [← z, hW] at hT; cases hT
  have nT2 : iF ≠ iT := fun z => by rw [← z, hF] at hT; cases hT
  have R1 : R2 K T A G0 (upd H1 p (.lst [.str W, v])) σ ρ := (R.extN hn e t).ext hn (same_upd hp)
  have R2' : R2 K T A G0 (upd H1 p (.lst [.str W, v])) ((σ.set iW (some (.str W))).set iF (some v)) ρ := (R1.setU hW fun q hq => (hA q hq).1).setU hF fun q hq => (hA q hq).2
  have sW : ((σ.set iW (some (.str W))).set iF (some v))[iW]? = some (some (.str W)) := by rw [List.getElem?_set_ne hne.symm, List.getElem?_set_self l1]
  have sF : ((σ.set iW (some (.str W))).set iF (some v))[iF]? = some (some v) := by rw [List.getElem?_set_self (by rw [List.length_set]; exact l2)]
  have sT : ((σ.set iW (some (.str W))).set iF (some v))[iT]? = some (some v) := by rw [List.getElem?_set_ne nT2, List.getElem?_set_ne nT1]; exact hs
  obtain ⟨v', h1, h2⟩ := R2'.imm hT
  rw [sT] at h1
  cases h1
  refine ⟨p, _, rfl, SqL.of upd_same, rfl, _, _, rfl, _, _, rfl, rfl, ?_⟩
  refine ⟨.str W, sW, rfl, false, by simp, ?_⟩
  refine ifF ⟨v, sF, v, sT, v, d, _, rfl, .refl _, h2, hv, fun H' s => ⟨true, rfl, ?_⟩⟩
  exact hD _ _ (R2'.ext hn s)
def iterOf : Stmt → Expr
  | .For _ it _ _ _ => it
  | _ => .Constant .none 0 ⟨0, 0, 0, 0⟩
def eltsOf : Expr → List Expr
  | .List es _ => es
  | _ => []
def lamP : Expr → Arguments
  | .Lambda p _ _ _ => p
  | _ => defArgs dftS
def lamB : Expr → Expr
  | .Lambda _ b _ _ => b
  | e => e
def lamS : Expr → Scope
  | .Lambda _ _ s _ => s
  | _ => defScope dftS
abbrev dftE : Expr := .Constant .none 0 ⟨0, 0, 0, 0⟩
def lamR (i : Nat) : Expr := (eltsOf (iterOf ((bodyOf stB).getD 0 dftS))).getD i dftE
theorem hideL_at {N : List Str} {scope : Scope} {σ : L2.St} {i : Nat} {y : Str} {o : Option V} (hy : N[i]? = some y) (h : σ[i]? = some o) (hl : scope.names.lookup y ≠ some .local) : (hideL N scope σ)[i]? = some o := by
  unfold hideL
  rw [List.getElem?_zipWith, hy, h]
  dsimp only
  rw [if_neg hl]
theorem LamAt.into {H G : Hp} {f : Addr} {qual : Str} {params : Arguments} {body : Expr} {scope : Scope} {cl : List (Str × Addr)} {dvs : List V} (l : LamAt H f qual params body scope cl dvs) (e : ∀ b x, H b = some x → (∀ ps, x ≠ .tbl ps) → (∀ vs, x ≠ .lst vs) → G b = some x) : LamAt G f qual params body scope cl dvs := by
  obtain ⟨c', dT, h1, h2, h3⟩ := l
  refine ⟨c', dT, e _ _ h1 lamO_ne (fun _ z => by unfold LamO at z; cases z), e _ _ h2 codeO_ne (fun _ z => by unfold CodeO at z; cases z), ?_⟩
  rcases h3 with h | ⟨T, a, b, c⟩
  · exact .inl h
  · exact .inr ⟨T, a, b, e _ _ c (fun ps z => by cases z) (fun ps z => by cases z)⟩
/-- for v in a new list of known things -/
theorem loopA {K : Frag} {T : List (Addr × Str)} {A : List (Nat × Addr)} {G0 H0 : Hp} {σ : L2.St} {ρ : Ev.Env} {p : Addr} {xs : List Addr} {iv : Nat} {tb : TS} {D : Ends} (R0 : R2 K T A G0 H0 σ ρ) (hn : NoTb G0) (hp : H0 p = none) (hi : getE ρ iv = none) (hA : ∀ q ∈ A, q.1 ≠ iv) (hl : iv < ρ.length)
    (hD : ∀ σ' H', R2 K T A G0 H' σ' ρ → D.nx σ' H')
    (hb : ∀ G1, NoTb G1 → (∀ b x, H0 b = some x → (∀ ps, x ≠ .tbl ps) → (∀ vs, x ≠ .lst vs) → G1 b = some x) → ∀ c ∈ xs, ∀ (D' : Ends) σ2 H2, R2 K T ((iv, c) :: A) G1 H2 σ2 ρ → (∀ σ' H', R2 K T A G1 H' σ' ρ → D'.nx σ' H') → tb D' σ2 H2) :
    ∃ W : Nat → Nat → L2.St → Hp → Prop, (∃ m, W 0 m σ (upd H0 p (.lst (xs.map V.ref)))) ∧ ∀ i m σ H, W i m σ H →
      ((Itl K p).stop i H ∧ D.nx σ H) ∨ ((Itl K p).go i H ∧ ∃ N : L2.St → Hp → Prop, (∀ σ' H', N σ' H' → ∃ m', m' < m ∧ W (i + 1) m' σ' H') ∧ ∀ x H', (Itl K p).yld i H x H' → gName iv x σ H' fun σ2 H2 => tb { D with nx := N, ct := N, bk := D.nx } σ2 H2) := by
  have R1 : R2 K T A G0 (upd H0 p (.lst (xs.map V.ref))) σ ρ := R0.ext hn (same_upd hp)
  obtain ⟨s1, R1'⟩ := R1.re hn
  have np : ¬ Held σ ρ p := fun ⟨i, ys, h1, h2⟩ => by
    obtain ⟨G, F, _, _, R⟩ := R0
    obtain ⟨b, h3, _, _, ws, h4, _⟩ := R.own i ys h1
    rw [h2] at h3; cases h3
    rw [hp] at h4; cases h4
  have notL : ∀ b, Held σ ρ b → ∃ vs, H0 b = some (.lst vs) := fun b ⟨i, ys, h1, h2⟩ => by
    obtain ⟨G, F, _, _, R⟩ := R0
    obtain ⟨b', h3, _, _, ws, h4, _⟩ := R.own i ys h1
    rw [h2] at h3; cases h3
    exact ⟨ws, h4⟩
  have gp : untb (full (upd H0 p (.lst (xs.map V.ref))) σ ρ) p = some (.lst (xs.map V.ref)) := untb_some (by rw [full_not np]; exact upd_same) fun ps z => by cases z
  have gk : ∀ b x, H0 b = some x → (∀ ps, x ≠ .tbl ps) → (∀ vs, x ≠ .lst vs) → untb (full (upd H0 p (.lst (xs.map V.ref))) σ ρ) b = some x := fun b x h n1 n2 => by
    refine untb_some ?_ n1
    rw [full_not fun z => ?_, upd_ne (ne_of_none h hp)]
    · exact h
    · obtain ⟨vs, hv⟩ := notL b z
      rw [h] at hv
      cases hv
      exact n2 _ rfl
  generalize hG1 : untb (full (upd H0 p (.lst (xs.map V.ref))) σ ρ) = G1 at s1 R1' gp gk
  have nG : NoTb G1 := by rw [← hG1]; exact untb_no
  refine ⟨fun i m σ' H' => m + i = xs.length ∧ R2 K T A G1 H' σ' ρ, ⟨xs.length, rfl, R1'⟩, fun i m σ' H' ⟨hm, R'⟩ => ?_⟩
  have sq : SqL K H' p (xs.map V.ref) := SqL.of (R'.frm _ _ gp)
  by_cases hlt : i < xs.length
  · refine .inr ⟨⟨_, V.ref xs[i], sq, by simp [hlt]⟩, fun σ2 H2 => m - 1 + (i + 1) = xs.length ∧ R2 K T A G1 H2 σ2 ρ, fun σ2 H2 h => ⟨m - 1, by omega, h⟩, fun x H2 y => ?_⟩
    obtain ⟨rfl, hx⟩ := y
    have hx := hx _ sq
    have ex : x = V.ref xs[i] := by simpa [hlt] using hx.symm
    subst ex
    have R2' : R2 K T ((iv, xs[i]) :: A) G1 H2 (σ'.set iv (some (.ref xs[i]))) ρ := (R'.setU hi hA).addPin (by rw [List.getElem?_set_self (by rw [← R'.len]; exact hl)])
    exact hb G1 nG gk xs[i] (List.getElem_mem hlt) _ _ _ R2' fun σ3 H3 R3 => ⟨by omega, R3⟩
  · refine .inl ⟨⟨_, sq, by rw [List.length_map]; omega⟩, hD _ _ (R'.mono s1)⟩
section
variable {P : Program} {w : World} {K : Frag} {mg : Str → Option Value} {base : Heap} {a : Nat → Addr} {fd : Nat → FuncData} {n k : Nat} {f : Addr} {cdv : Value} {A : Around} {outer : List PySem.Env} {s : Shared} {H : Hp} {E : XK} {Cr Cn Cp fc : Addr} {fdc : FuncData} {pc : List Str}
abbrev specR0 (K : Frag) (Cr fc : Addr) : LamSpec := ⟨lamP (lamR 0), lamB (lamR 0), lamS (lamR 0), ["two"], [.int 2], fun E σ H Q => σ[12]? = some (some (.ref fc)) ∧ tCall (spA K 2 (B2 ratD) Cr "ratio") [] E (tCons (tVar 10) (tCons (tC .non) tNil)) σ H Q⟩
theorem specR0_ok (F : FnOk P w K mg base (CX P w) k fc fdc pc (spA K 2 (B2 ratD) Cr "ratio")) (hk : PySem.W.keepIn K (.ref fc) = true) (hb : L2.Binds K fdc pc []) : LamSpec.ok (cx__law_n_ratios P w K mg base f cdv A outer s H E) k (specR0 K Cr fc) := by
  refine ⟨lamS2_by (show lamS2B (defScope sRat) (lamS (lamR 0)) ["two"] = true from by decide +kernel), ⟨rfl, fun z => (by cases z), fun _ q cl T doc pm cv ctv => ⟨_, rfl, fun us hl => match us, hl with | [_], _ => rfl⟩⟩, fun A outer s H E f c' hr => ?_⟩
  exact pe_callV F hr hk hb (passes_call (takes_of rfl rfl rfl rfl) fun _ _ _ _ h => h) (pa_cons (pv 10) (pa_cons pe_non pa_nil)) rfl (Or.inr (Or.inr rfl))
abbrev specR1 (K : Frag) (Cr fc : Addr) : LamSpec := ⟨lamP (lamR 1), lamB (lamR 1), lamS (lamR 1), ["three"], [.int 3], fun E σ H Q => σ[12]? = some (some (.ref fc)) ∧ tCall (spA K 2 (B2 ratD) Cr "ratio") [] E (tCons (tTup (tCons (tC (.int 1)) (tCons (tC (.int 2)) tNil))) (tCons (tVar 10) tNil)) σ H Q⟩
theorem specR1_ok (F : FnOk P w K mg base (CX P w) k fc fdc pc (spA K 2 (B2 ratD) Cr "ratio")) (hk : PySem.W.keepIn K (.ref fc) = true) (hb : L2.Binds K fdc pc []) : LamSpec.ok (cx__law_n_ratios P w K mg base f cdv A outer s H E) k (specR1 K Cr fc) := by
  refine ⟨lamS2_by (show lamS2B (defScope sRat) (lamS (lamR 1)) ["three"] = true from by decide +kernel), ⟨rfl, fun z => (by cases z), fun _ q cl T doc pm cv ctv => ⟨_, rfl, fun us hl => match us, hl with | [_], _ => rfl⟩⟩, fun A outer s H E f c' hr => ?_⟩
  exact pe_callV F hr hk hb (passes_call (takes_of rfl rfl rfl rfl) fun _ _ _ _ h => h) (pa_cons (pe_tup (pa_cons pe_int (pa_cons pe_int pa_nil))) (pa_cons (pv 10) pa_nil)) rfl (Or.inr (Or.inr rfl))
end
end LW
set_option Elab.async false
set_option linter.all false
set_option maxRecDepth 100000
set_option maxHeartbeats 0
/-! V6: the loop over calls and queries of _law_n_ratios. -/
namespace LW
open PySem PySem.Spec PyProof.Rows L2 RT RZ Ev LamX LamD SupX
/-- what the hand statements want -/
structure Hnd (P : Program) (w : World) (K : Frag) (mg : Str → Option Value) (base : Heap) (a : Nat → Addr) (fd : Nat → FuncData) (Cr Cn Cp gm : Addr) (fdm : FuncData) : Prop where
  good : ∀ n, Good P w K mg base a fd n
  txt : Txt K mg a fd
  xt : XTxt P K mg Cr Cn Cp
  xm : XMet K mg Cr Cn Cp
  met : FunD K "_law_n_met" "_law_n_met" (defArgs sMet) (defBody sMet) (defScope sMet) [] [] gm fdm
  mmet : mg "_law_n_met" = some (.ref gm)
/-- the def's own table of code objects -/
structure Own1 (base : Heap) (mg : Str → Option Value) (Tb : List (Addr × Str)) (q : Str) (c Pt : Addr) : Prop where
  tb : TabB base mg c Pt
  mem : (Pt, q) ∈ Tb
  uniq : ∀ p ∈ Tb, p.1 = Pt → p.2 = q
def altsR (K : Frag) (Cr : Addr) (a : Nat → Addr) : List LamSpec := [specR0 K Cr (a 10), specR0 K Cr (a 11), specR0 K Cr (a 12), specR0 K Cr (a 13), specR1 K Cr (a 10), specR1 K Cr (a 11), specR1 K Cr (a 12), specR1 K Cr (a 13)]
section
variable {P : Program} {w : World} {K : Frag} {mg : Str → Option Value} {base : Heap} {a : Nat → Addr} {fd : Nat → FuncData} {m : Nat} {f : Addr} {cdv : Value} {A : Around} {outer : List PySem.Env} {s : Shared} {H : Hp} {E : XK} {Cr Cn Cp gm c Pt : Addr} {fdm : FuncData} {Tb : List (Addr × Str)} {Ap : List (Nat × Addr)} {G0 : Hp}
theorem Hnd.crat (h : Hnd P w K mg base a fd Cr Cn Cp gm fdm) : FnOk P w K mg base (CX P w) (m + 3) (a 9) (fd 9) p_check_ratios (spCL K ratD Cr "ratio") := x_check_ratios (h.good _) h.txt h.xt
theorem Hnd.cpol (h : Hnd P w K mg base a fd Cr Cn Cp gm fdm) : FnOk P w K mg base (CX P w) (m + 4) (a 21) (fd 21) p_check_polys (spCL K polyD Cp "poly") := x_check_polys (h.good _) h.txt h.xt
theorem s2_B (h : Hnd P w K mg base a fd Cr Cn Cp gm fdm) (o : Own1 base mg Tb "_law_n_ratios.<locals>.<lambda>" c Pt) (hc : cdv = .ref c) (hr : Room (m + 6) (A.deeper (envOfC "_law_n_ratios" (defScope sRat) s.heap.objs.size f cdv))) (hn : NoTb G0) (hio : ∀ p ∈ Ap, p.1 ∈ [0]) :
    S2 (cx__law_n_ratios P w K mg base f cdv A outer s H E) Tb Ap G0 (callN Φ (m + 6)) stB (.prim prB) := by
  subst hc
  have T := h.txt
  have o10 := specR0_ok (f := f) (cdv := .ref c) (A := A) (outer := outer) (s := s) (H := H) (E := E) (x_ratio_sum (n := m + 3) T h.crat) T.d_ratio_sum.kp T.b_ratio_sum
  have o11 := specR0_ok (f := f) (cdv := .ref c) (A := A) (outer := outer) (s := s) (H := H) (E := E) (x_ratio_less (n := m + 3) T h.crat) T.d_ratio_less.kp T.b_ratio_less
  have o12 := specR0_ok (f := f) (cdv := .ref c) (A := A) (outer := outer) (s := s) (H := H) (E := E) (x_ratio_times (n := m + 3) T h.crat) T.d_ratio_times.kp T.b_ratio_times
  have o13 := specR0_ok (f := f) (cdv := .ref c) (A := A) (outer := outer) (s := s) (H := H) (E := E) (x_ratio_over (n := m + 3) T h.crat) T.d_ratio_over.kp T.b_ratio_over
  have q10 := specR1_ok (f := f) (cdv := .ref c) (A := A) (outer := outer) (s := s) (H := H) (E := E) (x_ratio_sum (n := m + 3) T h.crat) T.d_ratio_sum.kp T.b_ratio_sum
  have q11 := specR1_ok (f := f) (cdv := .ref c) (A := A) (outer := outer) (s := s) (H := H) (E := E) (x_ratio_less (n := m + 3) T h.crat) T.d_ratio_less.kp T.b_ratio_less
  have q12 := specR1_ok (f := f) (cdv := .ref c) (A := A) (outer := outer) (s := s) (H := H) (E := E) (x_ratio_times (n := m + 3) T h.crat) T.d_ratio_times.kp T.b_ratio_times
  have q13 := specR1_ok (f := f) (cdv := .ref c) (A := A) (outer := outer) (s := s) (H := H) (E := E) (x_ratio_over (n := m + 3) T h.crat) T.d_ratio_over.kp T.b_ratio_over
  refine s2_ps (ps_for PassesOwn.never rfl (pi_list (pe_ifExp (pt_not (pt_val (pv 11))) (pe_lst (pa_cons (pe_glob (v := .ref (a 10)) rfl T.m_ratio_sum rfl) (pa_cons (pe_glob (v := .ref (a 11)) rfl T.m_ratio_less rfl) (pa_cons (pe_glob (v := .ref (a 12)) rfl T.m_ratio_times rfl) (pa_cons (pe_glob (v := .ref (a 13)) rfl T.m_ratio_over rfl) pa_nil))))) (pe_lst pa_nil))) (pg_name (i := 12) sc__law_n_ratios.nd rfl (Or.inr rfl))
    (pss_one (ps_for PassesOwn.never rfl (pi_list (pe_lst (pa_cons (pe_lam1 (T := Tb) o.tb rfl o.mem o.uniq rfl rfl fun ok => o10.sc.has ok) (pa_cons (pe_lam1 (T := Tb) o.tb rfl o.mem o.uniq rfl rfl fun ok => q10.sc.has ok) pa_nil)))) (pg_name (i := 13) sc__law_n_ratios.nd rfl (Or.inl rfl))
      (pss_cons (ps_asg (pe_met (k := m + 4) (alts := altsR K Cr a) h.xm h.met rfl h.mmet hr (pv 13) (by
          intro L hL
          simp only [altsR, List.mem_cons, List.not_mem_nil, or_false] at hL
          rcases hL with rfl | rfl | rfl | rfl | rfl | rfl | rfl | rfl
          · exact o10
          · exact o11
          · exact o12
          · exact o13
          · exact q10
          · exact q11
          · exact q12
          · exact q13)) (pg_lst (n := 2) rfl (pgs_cons (pg_name (i := 14) sc__law_n_ratios.nd rfl (Or.inl rfl)) (pgs_cons (pg_name (i := 15) sc__law_n_ratios.nd rfl (Or.inl rfl)) pgs_nil))))
        (pss_cons (ps_if (PW.pt (pw_or (pt_cmpR op_ne (pv 14) pe_str (nomark _)) (pw_or1 (pt_not (pt_val (pe_call (very_ok (n := m) (h.good _) T) hr rfl T.m__law_very T.d__law_very.kp T.b__law_very .nil pass0 (pa_cons (pv 15) (pa_cons (pv 10) pa_nil)))))))) pss_never pss_nil) pss_nil)))) ) (fun σ H ρ out ρ' R e => ?_)
  rw [s_prim] at e
  unfold prB at e
  split at e
  · rename_i d b hd hb
    split at e
    · rename_i hcond
      cases e
      simp only [Bool.and_eq_true, beq_iff_eq, Bool.or_eq_true] at hcond
      obtain ⟨⟨hlen, hbr⟩, hvd⟩ := hcond
      have Rc := R.clrs [12, 13, 14, 15]
      have gd : getE (clrAll [12, 13, 14, 15] ρ) 10 = some (.imm d) := by rw [getE_clrAll, if_neg (by decide)]; exact hd
      have clen : (clrAll [12, 13, 14, 15] ρ).length = 16 := by rw [clrAll_len]; exact hlen
      have n12 := getE_clrs (is := [12, 13, 14, 15]) (i := 12) (by decide) ρ
      have n13 := getE_clrs (is := [12, 13, 14, 15]) (i := 13) (by decide) ρ
      have n14 := getE_clrs (is := [12, 13, 14, 15]) (i := 14) (by decide) ρ
      have n15 := getE_clrs (is := [12, 13, 14, 15]) (i := 15) (by decide) ρ
      generalize clrAll [12, 13, 14, 15] ρ = ρc at Rc gd clen n12 n13 n14 n15
      have nio : ∀ i, i ≠ 0 → ∀ q ∈ Ap, q.1 ≠ i := fun i hi q hq z => by
        have := hio q hq
        simp at this
        omega
      obtain ⟨vr, hvr, dvr⟩ := R.imm hb
      cases dvr
      refine ⟨.bl b, hvr, b, rfl, ?_⟩
      cases b with
      | true =>
        refine ifF ⟨by simp, fun p hp => ⟨p, rfl, ⟨_, SqL.of upd_same⟩, ?_⟩⟩
        refine ⟨fun i m σ' H' => σ' = σ ∧ H' = upd H p (.lst []), ⟨0, rfl, rfl⟩, fun i m σ' H' ⟨e1, e2⟩ => .inl ⟨⟨[], ?_, by simp⟩, rfl, ?_⟩⟩
        · rw [e2]; exact SqL.of upd_same
        · rw [e1, e2]; exact Rc.ext hn (same_upd hp)
      | false =>
        have hrat : ratD d = false := hbr.symm
        have hv : veryD d = true := by simpa using hvd
        -- one call of the lambdas
        refine ifT ⟨by rw [sizeLine_eq]; exact (by decide : 4 ≤ 16777216), fun p hp => ⟨p, rfl, ⟨_, SqL.of upd_same⟩, ?_⟩⟩
        refine loopA (xs := [a 10, a 11, a 12, a 13]) Rc hn hp n12 (nio 12 (by decide)) (by omega) (fun σ' H' R' => ⟨rfl, R'⟩) (fun G1 hn1 keep1 fc hfc D1 σ1 H1 R1 hD1 => ?_)
        have m0 : specR0 K Cr fc ∈ altsR K Cr a := by
          simp only [List.mem_cons, List.not_mem_nil, or_false] at hfc
          unfold altsR
          rcases hfc with rfl | rfl | rfl | rfl <;> simp
        have m1 : specR1 K Cr fc ∈ altsR K Cr a := by
          simp only [List.mem_cons, List.not_mem_nil, or_false] at hfc
          unfold altsR
          rcases hfc with rfl | rfl | rfl | rfl <;> simp
        refine ⟨R1.tabs, fun f1 H3 e1 mo1 t1 x1 l1 => ⟨t1, fun f2 H4 e2 mo2 t2 x2 l2 => ⟨two_fit _ _, fun p2 hp2 => ⟨p2, rfl, ⟨_, SqL.of upd_same⟩, ?_⟩⟩⟩⟩
        refine loopA (xs := [f1, f2]) ((R1.extN hn1 e1 t1).extN hn1 e2 t2) hn1 hp2 n13 (fun q hq => ?_) (by omega) (fun σ' H' R' => hD1 _ _ (R'.subPin fun q hq => List.mem_cons_of_mem _ hq)) (fun G2 hn2 keep2 qf hqf D2 σ5 H5 R5 hD2 => ?_)
        · rcases List.mem_cons.mp hq with rfl | hq
          · show (12 : Nat) ≠ 13; decide
          · exact nio 13 (by decide) q hq
        have c0 : (lamS (lamR 0)).names.lookup ("call" : Str) ≠ some NameKind.local := by decide +kernel
        have t0 : (lamS (lamR 0)).names.lookup ("thing" : Str) ≠ some NameKind.local := by decide +kernel
        have c1 : (lamS (lamR 1)).names.lookup ("call" : Str) ≠ some NameKind.local := by decide +kernel
        have t1' : (lamS (lamR 1)).names.lookup ("thing" : Str) ≠ some NameKind.local := by decide +kernel
        have L5 : σ5.length = 16 := by rw [← R5.len]; exact clen
        have p13 : σ5[13]? = some (some (.ref qf)) := R5.pin (13, qf) (by simp)
        have p12 : σ5[12]? = some (some (.ref fc)) := R5.pin (12, fc) (by simp)
        have R6 : R2 K Tb ((12, fc) :: Ap) G2 H5 σ5 ρc := R5.subPin fun q hq => List.mem_cons_of_mem _ hq
        obtain ⟨v, hs5, dv5⟩ := R6.imm gd
        have into : ∀ {fx : Addr} {qual : Str} {params : Arguments} {body : Expr} {scope : Scope} {cl : List (Str × Addr)} {dvs : List V}, LamAt H4 fx qual params body scope cl dvs → LamAt H5 fx qual params body scope cl dvs := fun l => (LW.LamAt.into l keep2).ext (ExtN.of R5.frm)
        have hA2 : ∀ q ∈ ((12, fc) :: Ap : List (Nat × Addr)), q.1 ≠ 14 ∧ q.1 ≠ 15 := fun q hq => by
          rcases List.mem_cons.mp hq with rfl | hq
          · exact ⟨show (12 : Nat) ≠ 14 by decide, show (12 : Nat) ≠ 15 by decide⟩
          · exact ⟨nio 14 (by decide) q hq, nio 15 (by decide) q hq⟩
        have fin : ∀ (Q : VK), (∀ (H1 : Hp) (p : Addr), ExtN H5 H1 → Tabs Tb H1 → H1 p = none → Q (.ref p) (upd H1 p (.lst [.str "ratio", v]))) → ∀ (Hx H' : Hp) (dd : Addr), Same H5 Hx → Same Hx H' → H' dd = none → MetE Cr Cn Cp Q (.ref Cr) (some dd) (upd H' dd (.xd [("ratio", v)])) := fun Q hQ Hx H' dd s1 s2 hdd =>
          .inl ⟨v, dd, _, rfl, rfl, upd_same, rfl, fun p hp => hQ _ p (ExtN.of ((s1.trans s2).trans (same_upd hdd))) (R5.tabs.ext ((s1.trans s2).trans (same_upd hdd))) hp⟩
        have ask : ∀ (H1 : Hp) (p : Addr), ExtN H5 H1 → Tabs Tb H1 → H1 p = none → _ := fun H1 p e t hp => metStep (W := "ratio") (iW := 14) (iF := 15) (iT := 10) (rb := tNever) (D := D2) R6 hn2 n14 n15 gd hv hA2 (by omega) (by omega) (by decide) hs5 e t hp fun σ' H' R' => hD2 _ _ R'
        refine ⟨.ref qf, p13, L5, ?_⟩
        rcases List.mem_cons.mp hqf with rfl | hqf
        · refine ⟨_, m0, _, rfl, into (l1.ext e2), hideL_at rfl p12 c0, v, hideL_at rfl hs5 t0, H5, [d, .none], 0, v, .refl _, .cons dv5 (.cons .non .nil), rfl, ⟨_, _, rfl, .inl ⟨rfl, hrat⟩⟩, rfl, fun H' dd sm hdd => fin _ ask H5 H' dd (.refl _) sm hdd⟩
        · obtain rfl := List.mem_singleton.mp hqf
          refine ⟨_, m1, _, rfl, into l2, hideL_at rfl p12 c1, two_fit _ _, fun pt hpt => ⟨v, hideL_at rfl hs5 t1', upd H5 pt (.tup [.int 1, .int 2]), [.tuple [.int 1, .int 2], d], 1, v, .refl _, .cons (.tup (SqT.of upd_same) (.cons (.int 1) (.cons (.int 2) .nil))) (.cons (dv5.mono (same_upd hpt)) .nil), rfl, ⟨_, _, rfl, .inr ⟨rfl, by decide +kernel, hrat⟩⟩, rfl, fun H' dd sm hdd => fin _ ask _ H' dd (same_upd hpt) sm hdd⟩⟩
    · cases e
  · cases e
end
end LW
set_option Elab.async false
set_option linter.all false
set_option maxRecDepth 100000
set_option maxHeartbeats 0
/-! V7: the nought of _law_n_ratios. -/
namespace LW
open PySem PySem.Spec PyProof.Rows L2 RT RZ Ev LamX LamD SupX
def callArg : Expr → Expr
  | .Call _ (e :: _) _ _ => e
  | e => e
def testOf : Stmt → Expr
  | .If c _ _ _ => c
  | _ => dftE
def leftOf : Expr → Expr
  | .Compare l _ _ _ => l
  | e => e
def lamA : Expr := callArg (leftOf (testOf stA))
section
variable {P : Program} {w : World} {K : Frag} {mg : Str → Option Value} {base : Heap} {a : Nat → Addr} {fd : Nat → FuncData} {m : Nat} {f : Addr} {cdv : Value} {A : Around} {outer : List PySem.Env} {s : Shared} {H : Hp} {E : XK} {Cr Cn Cp gm c Pt : Addr} {fdm : FuncData} {Tb : List (Addr × Str)} {Ap : List (Nat × Addr)} {G0 : Hp}
abbrev specA (K : Frag) (Cn : Addr) : LamSpec := ⟨lamP lamA, lamB lamA, lamS lamA, [], [], fun E => tCall (spA K 2 (B2t ratD nought) Cn "ratio") [] E (tCons (tVar 2) (tCons (tOp (rIx K) (tVar 4) (tC (.int 1))) tNil))⟩
theorem specA_ok (h : Hnd P w K mg base a fd Cr Cn Cp gm fdm) : LamSpec.ok (cx__law_n_ratios P w K mg base f cdv A outer s H E) (m + 4) (specA K Cn) := by
  refine ⟨lamS2_by (show lamS2B (defScope sRat) (lamS lamA) [] = true from by decide +kernel), ⟨rfl, fun _ q cl doc pm cv ctv => rfl, fun z => absurd rfl z⟩, fun A' outer' s' H' E' f' c' hr => ?_⟩
  exact pe_call (X := lamCx (cx__law_n_ratios P w K mg base f cdv A outer s H E) A' outer' s' H' E' (lamS lamA) f' c') (x := "ratio_over") (x_ratio_over0 (n := m + 3) h.txt h.xt h.crat) hr rfl h.txt.m_ratio_over h.txt.d_ratio_over.kp h.txt.b_ratio_over .nil (passes_call (takes_of rfl rfl rfl rfl) fun _ _ _ _ h => h) (pa_cons (pv 2) (pa_cons (pe_ix ix_seq (pv 4) pe_int (by intro _ _; rfl)) pa_nil))
theorem s2_A (h : Hnd P w K mg base a fd Cr Cn Cp gm fdm) (o : Own1 base mg Tb "_law_n_ratios.<locals>.<lambda>" c Pt) (hc : cdv = .ref c) (hr : Room (m + 6) (A.deeper (envOfC "_law_n_ratios" (defScope sRat) s.heap.objs.size f cdv))) (hn : NoTb G0) (hio : ∀ p ∈ Ap, p.1 ∈ [0]) :
    S2 (cx__law_n_ratios P w K mg base f cdv A outer s H E) Tb Ap G0 (callN Φ (m + 6)) stA (.prim prA) := by
  subst hc
  have oA := specA_ok (m := m) (f := f) (cdv := .ref c) (A := A) (outer := outer) (s := s) (H := H) (E := E) h
  refine s2_ps (ps_if (pt_cmpR (op_neD hr.units) (pe_met (k := m + 4) (alts := [specA K Cn]) h.xm h.met rfl h.mmet hr (pe_lam0 (T := Tb) o.tb rfl o.mem o.uniq rfl fun ok => oA.sc.has ok) (by
    intro L hL
    obtain rfl := List.mem_singleton.mp hL
    exact oA)) (pe_lst (pa_cons pe_str (pa_cons (pe_ix ix_seq (pv 4) pe_int (by intro _ _; rfl)) pa_nil))) (nomark _)) pss_never pss_nil) (fun σ H ρ out ρ' R e => ?_)
  rw [s_prim] at e
  unfold prA at e
  split at e
  · rename_i d x y hd hy
    split at e
    · rename_i hcond
      cases e
      simp only [Bool.and_eq_true, beq_iff_eq] at hcond
      obtain ⟨⟨⟨⟨hlen, hrd⟩, hre⟩, hno⟩, heq⟩ := hcond
      have R0 := R
      obtain ⟨G, F, g, tG, Rl⟩ := R
      obtain ⟨v1, hs1, dv1⟩ := Rl.imm 2 d hd
      obtain ⟨b, hsb, _, _, ws, hb, dws⟩ := Rl.own 4 _ hy
      cases dws with
      | cons dx q =>
      cases q with
      | cons dy q =>
      cases q
      rename_i vx vy
      refine ⟨R0.tabs, fun fl H1 e1 mo1 t1 x1 l1 => ?_⟩
      have c0 : (lamS lamA).names.lookup ("one" : Str) ≠ some NameKind.local := by decide +kernel
      have c1 : (lamS lamA).names.lookup ("own" : Str) ≠ some NameKind.local := by decide +kernel
      have hb1 : H1 b = some (.lst [vx, vy]) := e1 _ _ hb fun _ z => by cases z
      have sF1 : SameN F H1 := fun b x h n => e1 _ _ (Rl.sub _ _ h) n
      have d1 := dv1.monoN sF1
      have d2 := dy.monoN sF1
      have hl : σ.length = 16 := by rw [← Rl.len]; exact hlen
      refine ⟨hl, _, List.mem_singleton.mpr rfl, fl, rfl, l1, v1, hideL_at rfl hs1 c0, .ref b, hideL_at rfl hsb c1, .inl ⟨b, [vx, vy], 1, vy, rfl, rfl, SqL.of hb1, rfl, H1, [d, y], 1, vy, .refl _, .cons d1 (.cons d2 .nil), rfl, ⟨rfl, _, _, rfl, hrd, hre, hno⟩, rfl, fun H2 dd sm hdd => .inr (.inl ⟨vy, dd, _, rfl, rfl, upd_same, rfl, fun p hp => ?_⟩)⟩⟩
      -- behind met: the other list
      have s3 : Same H1 (upd (upd H2 dd (.xd [("ratio", vy)])) p (.lst [.str "nought", vy])) := (sm.trans (same_upd hdd)).trans (same_upd hp)
      refine ⟨.ref b, hsb, .inl ⟨b, [vx, vy], 1, vy, rfl, rfl, SqL.of (s3 _ _ hb1), rfl, two_fit _ _, fun p2 hp2 => ?_⟩⟩
      obtain ⟨z1, _, z3⟩ := eqD_some heq
      have s4 := s3.trans (same_upd (o := HO.lst [.str "nought", vy]) hp2)
      have dq : ∀ q, upd (upd (upd H2 dd (.xd [("ratio", vy)])) p (.lst [.str "nought", vy])) p2 (.lst [.str "nought", vy]) q = some (.lst [.str "nought", vy]) → Dp K (upd (upd (upd H2 dd (.xd [("ratio", vy)])) p (.lst [.str "nought", vy])) p2 (.lst [.str "nought", vy])) (.ref q) (.list [.str "nought", y]) := fun q hq =>
        (Dn.lst hq (.cons (.str _) (.cons (d2.mono s4) .nil))).dp (SeqAt.canLay_of_shaped z1)
      refine ⟨_, _, dq p ?_, dq p2 upd_same, z1, z1, false, by rw [← z3]; rfl, ?_⟩
      · rw [upd_ne (ne_of_none upd_same hp2)]; exact upd_same
      · refine ifF ⟨rfl, ?_⟩
        exact (R0.extN hn e1 t1).ext hn s4
    · cases e
  · cases e
end
end LW
set_option Elab.async false
set_option linter.all false
set_option maxRecDepth 100000
set_option maxHeartbeats 0
/-! V8: the lambdas of _law_n_polys. -/
namespace LW
open PySem PySem.Spec PyProof.Rows L2 RT RZ Ev LamX LamD SupX
def valOf : Stmt → Expr
  | .Assign _ e _ => e
  | .Expr e _ => e
  | _ => dftE
def lamC0 : Expr := (eltsOf (valOf (stC.getD 0 dftS))).getD 0 dftE
def lamCn (i : Nat) : Expr := callArg (valOf (stC.getD i dftS))
/-- for v in a list of known things -/
theorem loopB {K : Frag} {T : List (Addr × Str)} {A : List (Nat × Addr)} {G0 H1 : Hp} {σ : L2.St} {ρ : Ev.Env} {p : Addr} {xs : List Addr} {iv : Nat} {tb : TS} {D : Ends} (R1 : R2 K T A G0 H1 σ ρ) (hn : NoTb G0) (np : ¬ Held σ ρ p) (hp : H1 p = some (.lst (xs.map V.ref))) (hi : getE ρ iv = none) (hA : ∀ q ∈ A, q.1 ≠ iv) (hl : iv < ρ.length)
    (hD : ∀ σ' H', R2 K T A G0 H' σ' ρ → D.nx σ' H')
    (hb : ∀ G1, NoTb G1 → (∀ b x, H1 b = some x → (∀ ps, x ≠ .tbl ps) → (∀ vs, x ≠ .lst vs) → G1 b = some x) → ∀ c ∈ xs, ∀ (D' : Ends) σ2 H2, R2 K T ((iv, c) :: A) G1 H2 σ2 ρ → (∀ σ' H', R2 K T A G1 H' σ' ρ → D'.nx σ' H') → tb D' σ2 H2) :
    ∃ W : Nat → Nat → L2.St → Hp → Prop, (∃ m, W 0 m σ H1) ∧ ∀ i m σ H, W i m σ H →
      ((Itl K p).stop i H ∧ D.nx σ H) ∨ ((Itl K p).go i H ∧ ∃ N : L2.St → Hp → Prop, (∀ σ' H', N σ' H' → ∃ m', m' < m ∧ W (i + 1) m' σ' H') ∧ ∀ x H', (Itl K p).yld i H x H' → gName iv x σ H' fun σ2 H2 => tb { D with nx := N, ct := N, bk := D.nx } σ2 H2) := by
  obtain ⟨s1, R1'⟩ := R1.re hn
  have notL : ∀ b, Held σ ρ b → ∃ vs, H1 b = some (.lst vs) := fun b ⟨i, ys, h1, h2⟩ => by
    obtain ⟨G, F, _, _, R⟩ := R1
    obtain ⟨b', h3, _, _, ws, h4, _⟩ := R.own i ys h1
    rw [h2] at h3; cases h3
    exact ⟨ws, h4⟩
  have gp : untb (full H1 σ ρ) p = some (.lst (xs.map V.ref)) := untb_some (by rw [full_not np]; exact hp) fun ps z => by cases z
  have gk : ∀ b x, H1 b = some x → (∀ ps, x ≠ .tbl ps) → (∀ vs, x ≠ .lst vs) → untb (full H1 σ ρ) b = some x := fun b x h n1 n2 => by
    refine untb_some ?_ n1
    rw [full_not fun z => ?_]
    · exact h
    · obtain ⟨vs, hv⟩ := notL b z
      rw [h] at hv
      cases hv
      exact n2 _ rfl
  generalize hG1 : untb (full H1 σ ρ) = G1 at s1 R1' gp gk
  have nG : NoTb G1 := by rw [← hG1]; exact untb_no
  refine ⟨fun i m σ' H' => m + i = xs.length ∧ R2 K T A G1 H' σ' ρ, ⟨xs.length, rfl, R1'⟩, fun i m σ' H' ⟨hm, R'⟩ => ?_⟩
  have sq : SqL K H' p (xs.map V.ref) := SqL.of (R'.frm _ _ gp)
  by_cases hlt : i < xs.length
  · refine .inr ⟨⟨_, V.ref xs[i], sq, by simp [hlt]⟩, fun σ2 H2 => m - 1 + (i + 1) = xs.length ∧ R2 K T A G1 H2 σ2 ρ, fun σ2 H2 h => ⟨m - 1, by omega, h⟩, fun x H2 y => ?_⟩
    obtain ⟨rfl, hx⟩ := y
    have hx := hx _ sq
    have ex : x = V.ref xs[i] := by simpa [hlt] using hx.symm
    subst ex
    have R2' : R2 K T ((iv, xs[i]) :: A) G1 H2 (σ'.set iv (some (.ref xs[i]))) ρ := (R'.setU hi hA).addPin (by rw [List.getElem?_set_self (by rw [← R'.len]; exact hl)])
    exact hb G1 nG gk xs[i] (List.getElem_mem hlt) _ _ _ R2' fun σ3 H3 R3 => ⟨by omega, R3⟩
  · refine .inl ⟨⟨_, sq, by rw [List.length_map]; omega⟩, hD _ _ (R'.mono s1)⟩
/-- what is not yet there is not held -/
theorem notHeld0 {K : Frag} {T : List (Addr × Str)} {A : List (Nat × Addr)} {G0 H0 : Hp} {σ : L2.St} {ρ : Ev.Env} {p : Addr} (R0 : R2 K T A G0 H0 σ ρ) (hp : H0 p = none) : ¬ Held σ ρ p := fun ⟨i, ys, h1, h2⟩ => by
  obtain ⟨G, F, _, _, R⟩ := R0
  obtain ⟨b, h3, _, _, ws, h4, _⟩ := R.own i ys h1
  rw [h2] at h3; cases h3
  rw [hp] at h4; cases h4
theorem extN_upd {H0 H : Hp} {p : Addr} {o : HO} (e : ExtN H0 H) (hp : H0 p = none) : ExtN H0 (upd H p o) := fun b x h n => by
  rw [upd_ne (ne_of_none h hp)]
  exact e b x h n
theorem LamAt.wr {H : Hp} {p f : Addr} {ws vs : List V} {qual : Str} {params : Arguments} {body : Expr} {scope : Scope} {cl : List (Str × Addr)} {dvs : List V} (hp : H p = some (.lst ws)) (l : LamAt H f qual params body scope cl dvs) : LamAt (upd H p (.lst vs)) f qual params body scope cl dvs :=
  LW.LamAt.into l fun b x h n1 n2 => by
    rw [upd_ne fun z => ?_]
    · exact h
    · rw [z, hp] at h
      cases h
      exact n2 _ rfl
theorem tabs_wr {T : List (Addr × Str)} {H : Hp} {p : Addr} {ws vs : List V} (t : Tabs T H) (hp : H p = some (.lst ws)) : Tabs T (upd H p (.lst vs)) := tabs_lst t fun b o h n => by
  rw [upd_ne fun z => ?_]
  · exact h
  · rw [z, hp] at h
    cases h
    exact n _ rfl
section
variable {P : Program} {w : World} {K : Frag} {mg : Str → Option Value} {base : Heap} {a : Nat → Addr} {fd : Nat → FuncData} {m : Nat} {f : Addr} {cdv : Value} {A : Around} {outer : List PySem.Env} {s : Shared} {H : Hp} {E : XK} {Cr Cn Cp gm c Pt : Addr} {fdm : FuncData} {Tb : List (Addr × Str)} {Ap : List (Nat × Addr)} {G0 : Hp}
abbrev specC0 (K : Frag) (Cp : Addr) : LamSpec := ⟨lamP lamC0, lamB lamC0, lamS lamC0, ["one"], [.int 1], fun E => (tCall (spA K 2 (B2 polyD) Cp "poly") [] E (tCons (tVar 18) (tCons (tC .non) tNil)))⟩
theorem specC0_ok (h : Hnd P w K mg base a fd Cr Cn Cp gm fdm) : LamSpec.ok (cx__law_n_polys P w K mg base f cdv A outer s H E) (m + 5) (specC0 K Cp) := by
  refine ⟨lamS2_by (show lamS2B (defScope sPol) (lamS lamC0) ["one"] = true from by decide +kernel), ⟨rfl, fun z => (by cases z), fun _ q cl T doc pm cv ctv => ⟨_, rfl, fun us hl => match us, hl with | [_], _ => rfl⟩⟩, fun A' outer' s' H' E' f' c' hr => ?_⟩
  exact pe_call (X := lamCx (cx__law_n_polys P w K mg base f cdv A outer s H E) A' outer' s' H' E' (lamS lamC0) f' c') (x := "poly_sum") (x_poly_sum (n := m + 4) h.txt h.cpol) hr rfl h.txt.m_poly_sum h.txt.d_poly_sum.kp h.txt.b_poly_sum .nil (passes_call (takes_of rfl rfl rfl rfl) fun _ _ _ _ h => h) (pa_cons (pv 18) (pa_cons pe_non pa_nil))
abbrev specC1 (K : Frag) (Cp : Addr) : LamSpec := ⟨lamP (lamCn 1), lamB (lamCn 1), lamS (lamCn 1), ["two"], [.int 2], fun E => (tCall (spA K 2 (B2 polyD) Cp "poly") [] E (tCons (tLst tNil) (tCons (tVar 18) tNil)))⟩
theorem specC1_ok (h : Hnd P w K mg base a fd Cr Cn Cp gm fdm) : LamSpec.ok (cx__law_n_polys P w K mg base f cdv A outer s H E) (m + 5) (specC1 K Cp) := by
  refine ⟨lamS2_by (show lamS2B (defScope sPol) (lamS (lamCn 1)) ["two"] = true from by decide +kernel), ⟨rfl, fun z => (by cases z), fun _ q cl T doc pm cv ctv => ⟨_, rfl, fun us hl => match us, hl with | [_], _ => rfl⟩⟩, fun A' outer' s' H' E' f' c' hr => ?_⟩
  exact pe_call (X := lamCx (cx__law_n_polys P w K mg base f cdv A outer s H E) A' outer' s' H' E' (lamS (lamCn 1)) f' c') (x := "poly_less") (x_poly_less (n := m + 4) h.txt h.cpol) hr rfl h.txt.m_poly_less h.txt.d_poly_less.kp h.txt.b_poly_less .nil (passes_call (takes_of rfl rfl rfl rfl) fun _ _ _ _ h => h) (pa_cons (pe_lst pa_nil) (pa_cons (pv 18) pa_nil))
abbrev specC2 (K : Frag) (Cp : Addr) : LamSpec := ⟨lamP (lamCn 2), lamB (lamCn 2), lamS (lamCn 2), ["three"], [.int 3], fun E => (tCall (spA K 2 (B2 polyD) Cp "poly") [] E (tCons (tVar 18) (tCons (tC .non) tNil)))⟩
theorem specC2_ok (h : Hnd P w K mg base a fd Cr Cn Cp gm fdm) : LamSpec.ok (cx__law_n_polys P w K mg base f cdv A outer s H E) (m + 5) (specC2 K Cp) := by
  refine ⟨lamS2_by (show lamS2B (defScope sPol) (lamS (lamCn 2)) ["three"] = true from by decide +kernel), ⟨rfl, fun z => (by cases z), fun _ q cl T doc pm cv ctv => ⟨_, rfl, fun us hl => match us, hl with | [_], _ => rfl⟩⟩, fun A' outer' s' H' E' f' c' hr => ?_⟩
  exact pe_call (X := lamCx (cx__law_n_polys P w K mg base f cdv A outer s H E) A' outer' s' H' E' (lamS (lamCn 2)) f' c') (x := "poly_times") (x_poly_times (n := m + 4) h.txt h.cpol) hr rfl h.txt.m_poly_times h.txt.d_poly_times.kp h.txt.b_poly_times .nil (passes_call (takes_of rfl rfl rfl rfl) fun _ _ _ _ h => h) (pa_cons (pv 18) (pa_cons pe_non pa_nil))
abbrev specC3 (K : Frag) (Cp : Addr) : LamSpec := ⟨lamP (lamCn 3), lamB (lamCn 3), lamS (lamCn 3), ["four"], [.int 4], fun E => (tCall (spA K 1 (B1 polyD) Cp "poly") [] E (tCons (tVar 18) tNil))⟩
theorem specC3_ok (h : Hnd P w K mg base a fd Cr Cn Cp gm fdm) : LamSpec.ok (cx__law_n_polys P w K mg base f cdv A outer s H E) (m + 5) (specC3 K Cp) := by
  refine ⟨lamS2_by (show lamS2B (defScope sPol) (lamS (lamCn 3)) ["four"] = true from by decide +kernel), ⟨rfl, fun z => (by cases z), fun _ q cl T doc pm cv ctv => ⟨_, rfl, fun us hl => match us, hl with | [_], _ => rfl⟩⟩, fun A' outer' s' H' E' f' c' hr => ?_⟩
  exact pe_call (X := lamCx (cx__law_n_polys P w K mg base f cdv A outer s H E) A' outer' s' H' E' (lamS (lamCn 3)) f' c') (x := "poly_derived") (x_poly_derived (n := m + 4) h.txt h.cpol) hr rfl h.txt.m_poly_derived h.txt.d_poly_derived.kp h.txt.b_poly_derived .nil (passes_call (takes_of rfl rfl rfl rfl) fun _ _ _ _ h => h) (pa_cons (pv 18) pa_nil)
abbrev specC4 (K : Frag) (Cp : Addr) : LamSpec := ⟨lamP (lamCn 4), lamB (lamCn 4), lamS (lamCn 4), ["five"], [.int 5], fun E => (tCall (spA K 2 (B1 polyD) Cp "poly") [] E (tCons (tVar 18) (tCons (tC .non) tNil)))⟩
theorem specC4_ok (h : Hnd P w K mg base a fd Cr Cn Cp gm fdm) : LamSpec.ok (cx__law_n_polys P w K mg base f cdv A outer s H E) (m + 5) (specC4 K Cp) := by
  refine ⟨lamS2_by (show lamS2B (defScope sPol) (lamS (lamCn 4)) ["five"] = true from by decide +kernel), ⟨rfl, fun z => (by cases z), fun _ q cl T doc pm cv ctv => ⟨_, rfl, fun us hl => match us, hl with | [_], _ => rfl⟩⟩, fun A' outer' s' H' E' f' c' hr => ?_⟩
  exact pe_call (X := lamCx (cx__law_n_polys P w K mg base f cdv A outer s H E) A' outer' s' H' E' (lamS (lamCn 4)) f' c') (x := "poly_at") (x_poly_at (n := m + 4) h.txt h.cpol) hr rfl h.txt.m_poly_at h.txt.d_poly_at.kp h.txt.b_poly_at .nil (passes_call (takes_of rfl rfl rfl rfl) fun _ _ _ _ h => h) (pa_cons (pv 18) (pa_cons pe_non pa_nil))
end
end LW
set_option Elab.async false
set_option linter.all false
set_option maxRecDepth 100000
set_option maxHeartbeats 0
/-! V9: the calls of _law_n_polys and the loop over them. -/
namespace LW
open PySem PySem.Spec PyProof.Rows L2 RT RZ Ev LamX LamD SupX
def altsC (K : Frag) (Cp : Addr) : List LamSpec := [specC0 K Cp, specC1 K Cp, specC2 K Cp, specC3 K Cp, specC4 K Cp]
section
variable {P : Program} {w : World} {K : Frag} {mg : Str → Option Value} {base : Heap} {a : Nat → Addr} {fd : Nat → FuncData} {m : Nat} {f : Addr} {cdv : Value} {A : Around} {outer : List PySem.Env} {s : Shared} {H : Hp} {E : XK} {Cr Cn Cp gm c Pt : Addr} {fdm : FuncData} {Tb : List (Addr × Str)} {Ap : List (Nat × Addr)} {G0 : Hp}
theorem sb2_C (h : Hnd P w K mg base a fd Cr Cn Cp gm fdm) (o : Own1 base mg Tb "_law_n_polys.<locals>.<lambda>" c Pt) (hc : cdv = .ref c) (hr : Room (m + 7) (A.deeper (envOfC "_law_n_polys" (defScope sPol) s.heap.objs.size f cdv))) (hn : NoTb G0) (hio : ∀ p ∈ Ap, p.1 ∈ [0]) :
    SB2 (cx__law_n_polys P w K mg base f cdv A outer s H E) Tb Ap G0 (callN Φ (m + 7)) stC (.cons (.prim prC) .nil) := by
  subst hc
  have T := h.txt
  have o0 := specC0_ok (m := m) (f := f) (cdv := .ref c) (A := A) (outer := outer) (s := s) (H := H) (E := E) h
  have o1 := specC1_ok (m := m) (f := f) (cdv := .ref c) (A := A) (outer := outer) (s := s) (H := H) (E := E) h
  have o2 := specC2_ok (m := m) (f := f) (cdv := .ref c) (A := A) (outer := outer) (s := s) (H := H) (E := E) h
  have o3 := specC3_ok (m := m) (f := f) (cdv := .ref c) (A := A) (outer := outer) (s := s) (H := H) (E := E) h
  have o4 := specC4_ok (m := m) (f := f) (cdv := .ref c) (A := A) (outer := outer) (s := s) (H := H) (E := E) h
  refine sb2_pss (pss_cons (ps_set (i := 20) sc__law_n_polys.nd rfl (Or.inl rfl) (pe_lst (pa_cons (pe_lam1 (T := Tb) o.tb rfl o.mem o.uniq rfl rfl fun ok => o0.sc.has ok) pa_nil)))
    (pss_cons (ps_expr (pe_bm PySem.F.plainAttrs_list PySem.F.slot_list_append PySem.F.type_list_append mt_append (pv 20) (pa_cons (pe_lam1 (T := Tb) o.tb rfl o.mem o.uniq rfl rfl fun ok => o1.sc.has ok) pa_nil)))
    (pss_cons (ps_expr (pe_bm PySem.F.plainAttrs_list PySem.F.slot_list_append PySem.F.type_list_append mt_append (pv 20) (pa_cons (pe_lam1 (T := Tb) o.tb rfl o.mem o.uniq rfl rfl fun ok => o2.sc.has ok) pa_nil)))
    (pss_cons (ps_expr (pe_bm PySem.F.plainAttrs_list PySem.F.slot_list_append PySem.F.type_list_append mt_append (pv 20) (pa_cons (pe_lam1 (T := Tb) o.tb rfl o.mem o.uniq rfl rfl fun ok => o3.sc.has ok) pa_nil)))
    (pss_cons (ps_expr (pe_bm PySem.F.plainAttrs_list PySem.F.slot_list_append PySem.F.type_list_append mt_append (pv 20) (pa_cons (pe_lam1 (T := Tb) o.tb rfl o.mem o.uniq rfl rfl fun ok => o4.sc.has ok) pa_nil)))
    (pss_cons (ps_for PassesOwn.never rfl (pi_list (pe_ifExp (pt_not (pt_val (pv 19))) (pv 20) (pe_lst pa_nil))) (pg_name (i := 21) sc__law_n_polys.nd rfl (Or.inl rfl))
      (pss_cons (ps_asg (pe_met (k := m + 5) (alts := altsC K Cp) h.xm h.met rfl h.mmet hr (pv 21) (by
          intro L hL
          simp only [altsC, List.mem_cons, List.not_mem_nil, or_false] at hL
          rcases hL with rfl | rfl | rfl | rfl | rfl
          · exact o0
          · exact o1
          · exact o2
          · exact o3
          · exact o4)) (pg_lst (n := 2) rfl (pgs_cons (pg_name (i := 22) sc__law_n_polys.nd rfl (Or.inl rfl)) (pgs_cons (pg_name (i := 23) sc__law_n_polys.nd rfl (Or.inl rfl)) pgs_nil))))
        (pss_cons (ps_if (PW.pt (pw_or (pt_cmpR op_ne (pv 22) pe_str (nomark _)) (pw_or1 (pt_not (pt_val (pe_call (very_ok (n := m + 1) (h.good _) T) hr rfl T.m__law_very T.d__law_very.kp T.b__law_very .nil pass0 (pa_cons (pv 23) (pa_cons (pv 18) pa_nil)))))))) pss_never pss_nil) pss_nil))) pss_nil)))))) (fun σ H ρ out ρ' R e => ?_)
  have e : prC ρ = some (out, ρ') := by
    rw [b_cons, s_prim] at e
    cases q : prC ρ with
    | none => rw [q] at e; cases e
    | some x =>
      obtain ⟨o1, ρ1⟩ := x
      rw [q] at e
      have hx : o1 = .next := by
        unfold prC at q
        split at q
        · split at q
          · cases q; rfl
          · cases q
        · cases q
      subst hx
      simpa using e
  unfold prC at e
  split at e
  · rename_i d b hd hb
    split at e
    · rename_i hcond
      cases e
      simp only [Bool.and_eq_true, beq_iff_eq, Bool.or_eq_true] at hcond
      obtain ⟨⟨hlen, hbr⟩, hvd⟩ := hcond
      have Rc0 := R.clrs [20, 21, 22, 23]
      have gd : getE (clrAll [20, 21, 22, 23] ρ) 18 = some (.imm d) := by rw [getE_clrAll, if_neg (by decide)]; exact hd
      have gb : getE (clrAll [20, 21, 22, 23] ρ) 19 = some (.imm (.bool b)) := by rw [getE_clrAll, if_neg (by decide)]; exact hb
      have clen : (clrAll [20, 21, 22, 23] ρ).length = 24 := by rw [clrAll_len]; exact hlen
      have n20 := getE_clrs (is := [20, 21, 22, 23]) (i := 20) (by decide) ρ
      have n21 := getE_clrs (is := [20, 21, 22, 23]) (i := 21) (by decide) ρ
      have n22 := getE_clrs (is := [20, 21, 22, 23]) (i := 22) (by decide) ρ
      have n23 := getE_clrs (is := [20, 21, 22, 23]) (i := 23) (by decide) ρ
      generalize clrAll [20, 21, 22, 23] ρ = ρc at Rc0 gd gb clen n20 n21 n22 n23
      have nio : ∀ i, i ≠ 0 → ∀ q ∈ Ap, q.1 ≠ i := fun i hi q hq z => by
        have := hio q hq
        simp at this
        omega
      have sl : σ.length = 24 := by rw [← Rc0.len]; exact clen
      refine ⟨Rc0.tabs, fun f0 H1 e1 mo1 t1 x1 l0 => ⟨one_fit _, fun p hp => ?_⟩⟩
      have hp0 : H p = none := mo1 _ hp
      have Rc : R2 K Tb Ap G0 H (σ.set 20 (some (.ref p))) ρc := Rc0.setU n20 (nio 20 (by decide))
      have h20 : (σ.set 20 (some (V.ref p)))[20]? = some (some (.ref p)) := by rw [List.getElem?_set_self (by omega)]
      have fit : ∀ {xs : List V}, xs.length ≤ 8 → xs.length < sizeLine := fun h => by rw [sizeLine_eq]; omega
      -- one
      have u1 : upd H1 p (.lst [.ref f0]) p = some (.lst [.ref f0]) := upd_same
      have E1 : ExtN H (upd H1 p (.lst [.ref f0])) := extN_upd e1 hp0
      have T1 : Tabs Tb (upd H1 p (.lst [.ref f0])) := t1.ext (same_upd hp)
      have l0 := l0.ext (ExtN.of (same_upd (o := .lst [.ref f0]) hp))
      refine ⟨.ref p, h20, .inl ⟨rfl, _, SqL.of u1⟩, T1, fun f1 H2 e2 mo2 t2 x2 l1 => ⟨p, _, _, rfl, rfl, e2 _ _ u1 (fun _ z => by cases z), fit (by simp), ?_⟩⟩
      have w1 : H2 p = some (.lst [.ref f0]) := e2 _ _ u1 (fun _ z => by cases z)
      have l0 := LW.LamAt.wr (vs := [.ref f0, .ref f1]) w1 (l0.ext e2)
      have l1 := LW.LamAt.wr (vs := [.ref f0, .ref f1]) w1 l1
      have E2 : ExtN H (upd H2 p (.lst [.ref f0, .ref f1])) := extN_upd (E1.trans e2) hp0
      have T2 : Tabs Tb (upd H2 p (.lst [.ref f0, .ref f1])) := tabs_wr t2 w1
      have u2 : upd H2 p (.lst [.ref f0, .ref f1]) p = some (.lst [.ref f0, .ref f1]) := upd_same
      refine ⟨.ref p, h20, .inl ⟨rfl, _, SqL.of u2⟩, T2, fun f2 H3 e3 mo3 t3 x3 l2 => ⟨p, _, _, rfl, rfl, e3 _ _ u2 (fun _ z => by cases z), fit (by simp), ?_⟩⟩
      have w2 : H3 p = some (.lst [.ref f0, .ref f1]) := e3 _ _ u2 (fun _ z => by cases z)
      have l0 := LW.LamAt.wr (vs := [.ref f0, .ref f1, .ref f2]) w2 (l0.ext e3)
      have l1 := LW.LamAt.wr (vs := [.ref f0, .ref f1, .ref f2]) w2 (l1.ext e3)
      have l2 := LW.LamAt.wr (vs := [.ref f0, .ref f1, .ref f2]) w2 l2
      have E3 : ExtN H (upd H3 p (.lst [.ref f0, .ref f1, .ref f2])) := extN_upd (E2.trans e3) hp0
      have T3 : Tabs Tb (upd H3 p (.lst [.ref f0, .ref f1, .ref f2])) := tabs_wr t3 w2
      have u3 : upd H3 p (.lst [.ref f0, .ref f1, .ref f2]) p = some (.lst [.ref f0, .ref f1, .ref f2]) := upd_same
      refine ⟨.ref p, h20, .inl ⟨rfl, _, SqL.of u3⟩, T3, fun f3 H4 e4 mo4 t4 x4 l3 => ⟨p, _, _, rfl, rfl, e4 _ _ u3 (fun _ z => by cases z), fit (by simp), ?_⟩⟩
      have w3 : H4 p = some (.lst [.ref f0, .ref f1, .ref f2]) := e4 _ _ u3 (fun _ z => by cases z)
      have l0 := LW.LamAt.wr (vs := [.ref f0, .ref f1, .ref f2, .ref f3]) w3 (l0.ext e4)
      have l1 := LW.LamAt.wr (vs := [.ref f0, .ref f1, .ref f2, .ref f3]) w3 (l1.ext e4)
      have l2 := LW.LamAt.wr (vs := [.ref f0, .ref f1, .ref f2, .ref f3]) w3 (l2.ext e4)
      have l3 := LW.LamAt.wr (vs := [.ref f0, .ref f1, .ref f2, .ref f3]) w3 l3
      have E4 : ExtN H (upd H4 p (.lst [.ref f0, .ref f1, .ref f2, .ref f3])) := extN_upd (E3.trans e4) hp0
      have T4 : Tabs Tb (upd H4 p (.lst [.ref f0, .ref f1, .ref f2, .ref f3])) := tabs_wr t4 w3
      have u4 : upd H4 p (.lst [.ref f0, .ref f1, .ref f2, .ref f3]) p = some (.lst [.ref f0, .ref f1, .ref f2, .ref f3]) := upd_same
      refine ⟨.ref p, h20, .inl ⟨rfl, _, SqL.of u4⟩, T4, fun f4 H5 e5 mo5 t5 x5 l4 => ⟨p, _, _, rfl, rfl, e5 _ _ u4 (fun _ z => by cases z), fit (by simp), ?_⟩⟩
      have w4 : H5 p = some (.lst [.ref f0, .ref f1, .ref f2, .ref f3]) := e5 _ _ u4 (fun _ z => by cases z)
      have l0 := LW.LamAt.wr (vs := [.ref f0, .ref f1, .ref f2, .ref f3, .ref f4]) w4 (l0.ext e5)
      have l1 := LW.LamAt.wr (vs := [.ref f0, .ref f1, .ref f2, .ref f3, .ref f4]) w4 (l1.ext e5)
      have l2 := LW.LamAt.wr (vs := [.ref f0, .ref f1, .ref f2, .ref f3, .ref f4]) w4 (l2.ext e5)
      have l3 := LW.LamAt.wr (vs := [.ref f0, .ref f1, .ref f2, .ref f3, .ref f4]) w4 (l3.ext e5)
      have l4 := LW.LamAt.wr (vs := [.ref f0, .ref f1, .ref f2, .ref f3, .ref f4]) w4 l4
      have E5 : ExtN H (upd H5 p (.lst [.ref f0, .ref f1, .ref f2, .ref f3, .ref f4])) := extN_upd (E4.trans e5) hp0
      have T5 : Tabs Tb (upd H5 p (.lst [.ref f0, .ref f1, .ref f2, .ref f3, .ref f4])) := tabs_wr t5 w4
      have u5 : upd H5 p (.lst [.ref f0, .ref f1, .ref f2, .ref f3, .ref f4]) p = some (.lst [.ref f0, .ref f1, .ref f2, .ref f3, .ref f4]) := upd_same
      have R5 := Rc.extN hn E5 T5
      have np := notHeld0 Rc hp0
      simp only [List.cons_append, List.nil_append]
      generalize upd H5 p (.lst [.ref f0, .ref f1, .ref f2, .ref f3, .ref f4]) = HX at l0 l1 l2 l3 l4 E5 T5 u5 R5 ⊢
      obtain ⟨vr, hvr, dvr⟩ := R5.imm gb
      cases dvr
      refine ⟨.bl b, hvr, b, rfl, ?_⟩
      cases b with
      | true =>
        refine ifF ⟨by simp, fun q hq => ⟨q, rfl, ⟨_, SqL.of upd_same⟩, ?_⟩⟩
        refine ⟨fun i m σ' H' => σ' = (σ.set 20 (some (.ref p))) ∧ H' = upd HX q (.lst []), ⟨0, rfl, rfl⟩, fun i m σ' H' ⟨z1, z2⟩ => .inl ⟨⟨[], ?_, by simp⟩, rfl, ?_⟩⟩
        · rw [z2]; exact SqL.of upd_same
        · rw [z1, z2]; exact R5.ext hn (same_upd hq)
      | false =>
        have hrat : polyD d = false := hbr.symm
        have hv : veryD d = true := by simpa using hvd
        refine ifT ⟨.ref p, h20, p, rfl, ⟨_, SqL.of u5⟩, ?_⟩
        refine loopB (xs := [f0, f1, f2, f3, f4]) R5 hn np u5 n21 (nio 21 (by decide)) (by omega) (fun σ' H' R' => ⟨rfl, R'⟩) (fun G1 hn1 keep1 fc hfc D1 σ6 H6 R6 hD1 => ?_)
        have hk0 : (lamS lamC0).names.lookup ("thing" : Str) ≠ some NameKind.local := by decide +kernel
        have hk1 : (lamS (lamCn 1)).names.lookup ("thing" : Str) ≠ some NameKind.local := by decide +kernel
        have hk2 : (lamS (lamCn 2)).names.lookup ("thing" : Str) ≠ some NameKind.local := by decide +kernel
        have hk3 : (lamS (lamCn 3)).names.lookup ("thing" : Str) ≠ some NameKind.local := by decide +kernel
        have hk4 : (lamS (lamCn 4)).names.lookup ("thing" : Str) ≠ some NameKind.local := by decide +kernel
        have L6 : σ6.length = 24 := by rw [← R6.len]; exact clen
        have p21 : σ6[21]? = some (some (.ref fc)) := R6.pin (21, fc) (by simp)
        have R6' : R2 K Tb Ap G1 H6 σ6 ρc := R6.subPin fun q hq => List.mem_cons_of_mem _ hq
        obtain ⟨v, hs6, dv6⟩ := R6'.imm gd
        have into : ∀ {fx : Addr} {qual : Str} {params : Arguments} {body : Expr} {scope : Scope} {cl : List (Str × Addr)} {dvs : List V}, LamAt HX fx qual params body scope cl dvs → LamAt H6 fx qual params body scope cl dvs := fun l => (LW.LamAt.into l keep1).ext (ExtN.of R6.frm)
        have hA2 : ∀ q ∈ Ap, q.1 ≠ 22 ∧ q.1 ≠ 23 := fun q hq => ⟨nio 22 (by decide) q hq, nio 23 (by decide) q hq⟩
        have fin : ∀ (Q : VK), (∀ (H1 : Hp) (p : Addr), ExtN H6 H1 → Tabs Tb H1 → H1 p = none → Q (.ref p) (upd H1 p (.lst [.str "poly", v]))) → ∀ (Hx H' : Hp) (dd : Addr), Same H6 Hx → Same Hx H' → H' dd = none → MetE Cr Cn Cp Q (.ref Cp) (some dd) (upd H' dd (.xd [("poly", v)])) := fun Q hQ Hx H' dd s1 s2 hdd =>
          .inr (.inr ⟨v, dd, _, rfl, rfl, upd_same, rfl, fun p hp => hQ _ p (ExtN.of ((s1.trans s2).trans (same_upd hdd))) (R6.tabs.ext ((s1.trans s2).trans (same_upd hdd))) hp⟩)
        have ask : ∀ (H1 : Hp) (p : Addr), ExtN H6 H1 → Tabs Tb H1 → H1 p = none → _ := fun H1 p e t hp => metStep (W := "poly") (iW := 22) (iF := 23) (iT := 18) (rb := tNever) (D := D1) R6' hn1 n22 n23 gd hv hA2 (by omega) (by omega) (by decide) hs6 e t hp fun σ' H' R' => hD1 _ _ R'
        refine ⟨.ref fc, p21, L6, ?_⟩
        simp only [List.mem_cons, List.not_mem_nil, or_false] at hfc
        rcases hfc with rfl | rfl | rfl | rfl | rfl
        · exact ⟨specC0 K Cp, by simp [altsC], _, rfl, into l0, v, hideL_at rfl hs6 hk0, H6, [d, .none], 0, v, .refl _, .cons dv6 (.cons .non .nil), rfl, ⟨_, _, rfl, .inl ⟨rfl, hrat⟩⟩, rfl, fun H' dd sm hdd => fin _ ask H6 H' dd (.refl _) sm hdd⟩
        · exact ⟨specC1 K Cp, by simp [altsC], _, rfl, into l1, by simp, fun pl hpl => ⟨v, hideL_at rfl hs6 hk1, upd H6 pl (.lst []), [.list [], d], 1, v, .refl _, .cons (.lst upd_same .nil) (.cons (dv6.mono (same_upd hpl)) .nil), rfl, ⟨_, _, rfl, .inr ⟨rfl, by decide +kernel, hrat⟩⟩, rfl, fun H' dd sm hdd => fin _ ask _ H' dd (same_upd hpl) sm hdd⟩⟩
        · exact ⟨specC2 K Cp, by simp [altsC], _, rfl, into l2, v, hideL_at rfl hs6 hk2, H6, [d, .none], 0, v, .refl _, .cons dv6 (.cons .non .nil), rfl, ⟨_, _, rfl, .inl ⟨rfl, hrat⟩⟩, rfl, fun H' dd sm hdd => fin _ ask H6 H' dd (.refl _) sm hdd⟩
        · exact ⟨specC3 K Cp, by simp [altsC], _, rfl, into l3, v, hideL_at rfl hs6 hk3, H6, [d], 0, v, .refl _, .cons dv6 .nil, rfl, ⟨rfl, _, _, rfl, hrat⟩, rfl, fun H' dd sm hdd => fin _ ask H6 H' dd (.refl _) sm hdd⟩
        · exact ⟨specC4 K Cp, by simp [altsC], _, rfl, into l4, v, hideL_at rfl hs6 hk4, H6, [d, .none], 0, v, .refl _, .cons dv6 (.cons .non .nil), rfl, ⟨rfl, _, _, rfl, hrat⟩, rfl, fun H' dd sm hdd => fin _ ask H6 H' dd (.refl _) sm hdd⟩
    · cases e
  · cases e
end
end LW
set_option Elab.async false
set_option linter.all false
set_option maxRecDepth 100000
set_option maxHeartbeats 0
/-! V10: the last loop's body of _law_n_polys. -/
namespace LW
open PySem PySem.Spec PyProof.Rows L2 RT RZ Ev LamX LamD SupX
def lamD : Expr := callArg (valOf (stD.getD 0 dftS))
def rListOf (K : Frag) : List V → Hp → VK → Prop := fun xs H Q => ∃ p ys, xs = [.ref p] ∧ (SqL K H p ys ∨ SqT K H p ys) ∧ ∀ l, H l = none → Q (.ref l) (upd H l (.lst ys))
section
variable {P : Program} {w : World} {K : Frag} {mg : Str → Option Value} {base : Heap} {a : Nat → Addr} {fd : Nat → FuncData} {m : Nat} {f : Addr} {cdv : Value} {A : Around} {outer : List PySem.Env} {s : Shared} {H : Hp} {E : XK} {Cr Cn Cp gm c Pt : Addr} {fdm : FuncData} {Tb : List (Addr × Str)} {Ap : List (Nat × Addr)} {G0 : Hp}
abbrev specD (K : Frag) (Cr : Addr) : LamSpec := ⟨lamP lamD, lamB lamD, lamS lamD, [], [], fun E => tCall (spA K 2 (B11 polyD ratD) Cr "ratio") [] E (tCons (tCB (rListOf K) (tCons (tVar 1) tNil)) (tCons (tVar 18) tNil))⟩
theorem specD_ok (h : Hnd P w K mg base a fd Cr Cn Cp gm fdm) : LamSpec.ok (cx__law_n_polys P w K mg base f cdv A outer s H E) (m + 5) (specD K Cr) := by
  refine ⟨lamS2_by (show lamS2B (defScope sPol) (lamS lamD) [] = true from by decide +kernel), ⟨rfl, fun _ q cl doc pm cv ctv => rfl, fun z => absurd rfl z⟩, fun A' outer' s' H' E' f' c' hr => ?_⟩
  exact pe_call (X := lamCx (cx__law_n_polys P w K mg base f cdv A outer s H E) A' outer' s' H' E' (lamS lamD) f' c') (x := "poly_at") (x_poly_at2 (n := m + 4) h.txt h.cpol (h.crat (m := m + 1))) hr rfl h.txt.m_poly_at h.txt.d_poly_at.kp h.txt.b_poly_at .nil (passes_call (takes_of rfl rfl rfl rfl) fun _ _ _ _ h => h)
    (pa_cons (pe_callTy (x := "list") (r := rListOf K) call_list_of rfl h.txt.f_list PyProof.Rows.boot_list (pa_cons (pv 1) pa_nil) (by decide) (by decide)) (pa_cons (pv 18) pa_nil))
theorem sb2_D (h : Hnd P w K mg base a fd Cr Cn Cp gm fdm) (o : Own1 base mg Tb "_law_n_polys.<locals>.<lambda>" c Pt) (hc : cdv = .ref c) (hr : Room (m + 7) (A.deeper (envOfC "_law_n_polys" (defScope sPol) s.heap.objs.size f cdv))) (hn : NoTb G0) (hio : ∀ p ∈ Ap, p.1 ∈ [0]) :
    SB2 (cx__law_n_polys P w K mg base f cdv A outer s H E) Tb Ap G0 (callN Φ (m + 7)) stD (.cons (.prim prD) .nil) := by
  subst hc
  have T := h.txt
  have oD := specD_ok (m := m) (f := f) (cdv := .ref c) (A := A) (outer := outer) (s := s) (H := H) (E := E) h
  refine sb2_pss (pss_cons (ps_asg (pe_met (k := m + 5) (alts := [specD K Cr]) h.xm h.met rfl h.mmet hr (pe_lam0 (T := Tb) o.tb rfl o.mem o.uniq rfl fun ok => oD.sc.has ok) (by
          intro L hL
          obtain rfl := List.mem_singleton.mp hL
          exact oD)) (pg_lst (n := 2) rfl (pgs_cons (pg_name (i := 22) sc__law_n_polys.nd rfl (Or.inl rfl)) (pgs_cons (pg_name (i := 23) sc__law_n_polys.nd rfl (Or.inl rfl)) pgs_nil))))
        (pss_cons (ps_if (PW.pt (pw_or (pt_cmpR op_ne (pv 22) pe_str (nomark _)) (pw_or1 (pt_not (pt_val (pe_call (very_ok (n := m + 1) (h.good _) T) hr rfl T.m__law_very T.d__law_very.kp T.b__law_very .nil pass0 (pa_cons (pv 23) (pa_cons (pv 18) pa_nil)))))))) pss_never pss_nil) pss_nil)) (fun σ H ρ out ρ' R e => ?_)
  have e : prD ρ = some (out, ρ') := by
    rw [b_cons, s_prim] at e
    cases q : prD ρ with
    | none => rw [q] at e; cases e
    | some x =>
      obtain ⟨o1, ρ1⟩ := x
      rw [q] at e
      have hx : o1 = .next := by
        unfold prD at q
        split at q
        · split at q
          · cases q; rfl
          · cases q
        · cases q
      subst hx
      simpa using e
  unfold prD at e
  split at e
  · rename_i d1 d ho hd
    split at e
    · rename_i hcond
      cases e
      simp only [Bool.and_eq_true, beq_iff_eq, Bool.not_eq_true'] at hcond
      obtain ⟨⟨⟨⟨hlen, hl⟩, hpol⟩, hrat⟩, hv⟩ := hcond
      have Rc := R.clrs [22, 23]
      have gd : getE (clrAll [22, 23] ρ) 18 = some (.imm d) := by rw [getE_clrAll, if_neg (by decide)]; exact hd
      have clen : (clrAll [22, 23] ρ).length = 24 := by rw [clrAll_len]; exact hlen
      have n22 := getE_clrs (is := [22, 23]) (i := 22) (by decide) ρ
      have n23 := getE_clrs (is := [22, 23]) (i := 23) (by decide) ρ
      obtain ⟨v1, hs1, dv1⟩ := R.imm ho
      obtain ⟨v, hs, dv⟩ := R.imm hd
      generalize clrAll [22, 23] ρ = ρc at Rc gd clen n22 n23
      have nio : ∀ i, i ≠ 0 → ∀ q ∈ Ap, q.1 ≠ i := fun i hi q hq z => by
        have := hio q hq
        simp at this
        omega
      have sl : σ.length = 24 := by rw [← Rc.len]; exact clen
      have hA2 : ∀ q ∈ Ap, q.1 ≠ 22 ∧ q.1 ≠ 23 := fun q hq => ⟨nio 22 (by decide) q hq, nio 23 (by decide) q hq⟩
      cases dv1 with
      | lst hb dws =>
        rename_i b ws xs
        refine ⟨Rc.tabs, fun fl H1 e1 mo1 t1 x1 l1 => ?_⟩
        have c0 : (lamS lamD).names.lookup ("one" : Str) ≠ some NameKind.local := by decide +kernel
        have c1 : (lamS lamD).names.lookup ("thing" : Str) ≠ some NameKind.local := by decide +kernel
        have hb1 : H1 b = some (.lst ws) := e1 _ _ hb fun _ z => by cases z
        have sN : SameN H H1 := fun b x h n => e1 _ _ h n
        have dws1 := DnA.monoN sN dws
        have dv2 := dv.monoN sN
        refine ⟨sl, _, List.mem_singleton.mpr rfl, fl, rfl, l1, .ref b, hideL_at rfl hs1 c0, b, ws, rfl, .inl (SqL.of hb1), fun p hp => ⟨v, hideL_at rfl hs c1, upd H1 p (.lst ws), [.list xs, d], 1, v, .refl _, .cons (.lst upd_same (DnA.mono (same_upd hp) dws1)) (.cons (dv2.mono (same_upd hp)) .nil), rfl, ⟨rfl, _, _, rfl, hpol, hrat⟩, rfl, fun H' dd sm hdd => .inl ⟨v, dd, _, rfl, rfl, upd_same, rfl, fun p2 hp2 => ?_⟩⟩⟩
        have s3 := ((same_upd (o := HO.lst ws) hp).trans sm).trans (same_upd (o := HO.xd [("ratio", v)]) hdd)
        exact metStep (W := "ratio") (iW := 22) (iF := 23) (iT := 18) (rb := tNever) Rc hn n22 n23 gd hv hA2 (by omega) (by omega) (by decide) hs (e1.trans (ExtN.of s3)) (t1.ext s3) hp2 fun σ' H' R' => ⟨rfl, R'⟩
      | _ => cases hl
    · cases e
  · cases e
end
end LW
set_option Elab.async false
set_option linter.all false
set_option maxRecDepth 100000
set_option maxHeartbeats 0
/-! printed by gen01b.py: the rows of _law_n_polys's told -/
namespace LW
open PySem PySem.Spec PyProof.Rows L2 RT RZ Ev LamX
def toldE (i : Nat) : Expr := (eltsOf (valOf ((defBody sPol).getD 5 dftS))).getD i dftE
section
variable {P : Program} {w : World} {K : Frag} {mg : Str → Option Value} {base : Heap} {a : Nat → Addr} {fd : Nat → FuncData} {n : Nat} {f : Addr} {cdv : Value} {A : Around} {outer : List PySem.Env} {s : Shared} {H : Hp} {E : XK} {Ap : List (Nat × Addr)} {G : Hp}
def ie_told0 : IE := .call 22 (.cons (.idxv 4 (.lit (.int 0))) (.cons (.idxv 4 (.lit (.int 1))) (.nil)))
theorem se_told0 (g : Good P w K mg base a fd n) (T : Txt K mg a fd) (hr : Room n (A.deeper (envOfC "_law_n_polys" (defScope sPol) s.heap.objs.size f cdv))) : SE (cx__law_n_polys P w K mg base f cdv A outer s H E) Ap G (callN Φ n) (toldE 0) ie_told0 := by
  exact (se_call g.g_poly_sum hr rfl T.m_poly_sum T.d_poly_sum.kp T.b_poly_sum pass0 (sa_cons (se_idxv (i := 4) se_int) (sa_cons (se_idxv (i := 4) se_int) sa_nil)))
def ie_told1 : IE := .call 23 (.cons (.idxv 4 (.lit (.int 0))) (.cons (.idxv 4 (.lit (.int 1))) (.nil)))
theorem se_told1 (g : Good P w K mg base a fd n) (T : Txt K mg a fd) (hr : Room n (A.deeper (envOfC "_law_n_polys" (defScope sPol) s.heap.objs.size f cdv))) : SE (cx__law_n_polys P w K mg base f cdv A outer s H E) Ap G (callN Φ n) (toldE 1) ie_told1 := by
  exact (se_call g.g_poly_less hr rfl T.m_poly_less T.d_poly_less.kp T.b_poly_less pass0 (sa_cons (se_idxv (i := 4) se_int) (sa_cons (se_idxv (i := 4) se_int) sa_nil)))
def ie_told2 : IE := .call 24 (.cons (.idxv 4 (.lit (.int 0))) (.cons (.idxv 4 (.lit (.int 1))) (.nil)))
theorem se_told2 (g : Good P w K mg base a fd n) (T : Txt K mg a fd) (hr : Room n (A.deeper (envOfC "_law_n_polys" (defScope sPol) s.heap.objs.size f cdv))) : SE (cx__law_n_polys P w K mg base f cdv A outer s H E) Ap G (callN Φ n) (toldE 2) ie_told2 := by
  exact (se_call g.g_poly_times hr rfl T.m_poly_times T.d_poly_times.kp T.b_poly_times pass0 (sa_cons (se_idxv (i := 4) se_int) (sa_cons (se_idxv (i := 4) se_int) sa_nil)))
def ie_told3 : IE := .call 25 (.cons (.idxv 4 (.lit (.int 0))) (.nil))
theorem se_told3 (g : Good P w K mg base a fd n) (T : Txt K mg a fd) (hr : Room n (A.deeper (envOfC "_law_n_polys" (defScope sPol) s.heap.objs.size f cdv))) : SE (cx__law_n_polys P w K mg base f cdv A outer s H E) Ap G (callN Φ n) (toldE 3) ie_told3 := by
  exact (se_call g.g_poly_derived hr rfl T.m_poly_derived T.d_poly_derived.kp T.b_poly_derived pass0 (sa_cons (se_idxv (i := 4) se_int) sa_nil))
end
end LW
set_option Elab.async false
set_option linter.all false
set_option maxRecDepth 100000
set_option maxHeartbeats 0
/-! V12: the told rows of _law_n_polys, made, looked at, written. -/
namespace LW
open PySem PySem.Spec PyProof.Rows L2 RT RZ Ev LamX LamD SupX
/-- what the middle of _law_n_polys does -/
def prM (cs : CS) (ρ : Ev.Env) : Option (Out × Ev.Env) := match getE ρ 1 with
  | some (.imm (.list Y)) => if ρ.length = 24 then
      (ev cs ie_told0 ρ).bind fun p1 => (ev cs ie_told1 p1.2).bind fun p2 => (ev cs ie_told2 p2.2).bind fun p3 => (ev cs ie_told3 p3.2).bind fun p4 => match p1.1, p2.1, p3.1, p4.1 with
        | .own x1, .own x2, .own x3, .own x4 => if x1.length ≤ 1000 ∧ x2.length ≤ 1000 ∧ x3.length ≤ 1000 ∧ x4.length ≤ 1000 then
            (evSs cs i__law_n_polys2 (setE p4.2 12 (.imm (.list [.list x1, .list x2, .list x3, .list x4])))).bind fun q => match q.1, getE q.2 0 with
              | .next, some (.own [.int x, .int y, .int z]) => if q.2.length = 24 then some (.next, some (.own [.int x, .int y, .int z]) :: some (.imm (.list Y)) :: List.replicate 22 none) else none
              | _, _ => none
            else none
        | _, _, _, _ => none
      else none
  | _ => none
theorem prM_some {cs : CS} {ρ ρ' : Ev.Env} {out : Out} (h : prM cs ρ = some (out, ρ')) : ∃ Y x1 x2 x3 x4 ρ1 ρ2 ρ3 ρ4 ρ5 x y z, getE ρ 1 = some (.imm (.list Y)) ∧ ρ.length = 24 ∧ ev cs ie_told0 ρ = some (.own x1, ρ1) ∧ ev cs ie_told1 ρ1 = some (.own x2, ρ2) ∧ ev cs ie_told2 ρ2 = some (.own x3, ρ3) ∧ ev cs ie_told3 ρ3 = some (.own x4, ρ4) ∧
    (x1.length ≤ 1000 ∧ x2.length ≤ 1000 ∧ x3.length ≤ 1000 ∧ x4.length ≤ 1000) ∧ evSs cs i__law_n_polys2 (setE ρ4 12 (.imm (.list [.list x1, .list x2, .list x3, .list x4]))) = some (.next, ρ5) ∧ getE ρ5 0 = some (.own [.int x, .int y, .int z]) ∧ ρ5.length = 24 ∧ out = .next ∧ ρ' = some (.own [.int x, .int y, .int z]) :: some (.imm (.list Y)) :: List.replicate 22 none := by
  unfold prM at h
  split at h
  · rename_i Y hY
    split at h
    · rename_i hl
      obtain ⟨⟨o1, ρ1⟩, e1, h⟩ := Option.bind_eq_some_iff.mp h
      obtain ⟨⟨o2, ρ2⟩, e2, h⟩ := Option.bind_eq_some_iff.mp h
      obtain ⟨⟨o3, ρ3⟩, e3, h⟩ := Option.bind_eq_some_iff.mp h
      obtain ⟨⟨o4, ρ4⟩, e4, h⟩ := Option.bind_eq_some_iff.mp h
      dsimp only at h e2 e3 e4
      split at h
      · split at h
        · rename_i hx
          obtain ⟨⟨o5, ρ5⟩, e5, h⟩ := Option.bind_eq_some_iff.mp h
          dsimp only at h
          split at h
          · rename_i q
            split at h
            · rename_i ql
              cases h
              exact ⟨_, _, _, _, _, _, _, _, _, _, _, _, _, hY, hl, e1, e2, e3, e4, hx, e5, q, ql, rfl, rfl⟩
            · cases h
          · cases h
        · cases h
      · cases h
    · cases h
  · cases h
section
variable {P : Program} {w : World} {K : Frag} {mg : Str → Option Value} {base : Heap} {a : Nat → Addr} {fd : Nat → FuncData} {n : Nat} {f : Addr} {cdv : Value} {A : Around} {outer : List PySem.Env} {s : Shared} {H : Hp} {E : XK} {Tb : List (Addr × Str)} {Ap : List (Nat × Addr)} {G0 : Hp}
/-- the loop that writes the rows -/
theorem rows_loop {K : Frag} {σ6 : L2.St} {H6 : Hp} {p : Addr} {as : List Addr} {D : Ends} {L : Nat} (hL : L + as.length < sizeLine) (hp : H6 p = some (.lst (as.map V.ref))) (np : p ∉ as) (ha : ∀ b ∈ as, ∃ ws, H6 b = some (.lst ws) ∧ ws.length ≤ L) (h12 : σ6[12]? = some (some (.ref p))) (hl : σ6.length = 24)
    (hD : ∀ σ' H', (∀ j, j ≠ 16 → σ'[j]? = σ6[j]?) → σ'.length = 24 → (∀ b, b ∉ as → H' b = H6 b) → (∀ b ∈ as, ∃ ws, H' b = some (.lst ws)) → D.nx σ' H') :
    tFor (iList K (tVar 12)) (gName 16) (tDrop (tBM K "list" rAppend (tVar 16) (tCons (tC (.str "late")) tNil))) D σ6 H6 := by
  refine ⟨.ref p, h12, p, rfl, ⟨_, SqL.of hp⟩, fun i m σ' H' => m + i = as.length ∧ (∀ j, j ≠ 16 → σ'[j]? = σ6[j]?) ∧ σ'.length = 24 ∧ (∀ b, b ∉ as → H' b = H6 b) ∧ ∀ b ∈ as, ∃ ws, H' b = some (.lst ws) ∧ ws.length ≤ L + i, ⟨as.length, rfl, fun _ _ => rfl, hl, fun _ _ => rfl, ha⟩, fun i m σ' H' ⟨h1, h2, h3, h4, h5⟩ => ?_⟩
  have hp' : H' p = some (.lst (as.map V.ref)) := by rw [h4 p np]; exact hp
  by_cases hlt : i < as.length
  · refine .inr ⟨⟨_, V.ref as[i], SqL.of hp', by simp [hlt]⟩, fun σ2 H2 => m - 1 + (i + 1) = as.length ∧ (∀ j, j ≠ 16 → σ2[j]? = σ6[j]?) ∧ σ2.length = 24 ∧ (∀ b, b ∉ as → H2 b = H6 b) ∧ ∀ b ∈ as, ∃ ws, H2 b = some (.lst ws) ∧ ws.length ≤ L + (i + 1), fun σ2 H2 h => ⟨m - 1, by omega, h⟩, fun x H2 y => ?_⟩
    obtain ⟨rfl, hx⟩ := y
    have hx := hx _ (SqL.of hp')
    have ex : x = V.ref as[i] := by simpa [hlt] using hx.symm
    subst ex
    have mem : as[i] ∈ as := List.getElem_mem hlt
    obtain ⟨ws, hw, hwl⟩ := h5 _ mem
    refine ⟨.ref as[i], by rw [List.getElem?_set_self (by omega)], .inl ⟨rfl, _, SqL.of hw⟩, as[i], ws, _, rfl, rfl, hw, by omega, ?_⟩
    refine ⟨by omega, fun j hj => by rw [List.getElem?_set_ne (Ne.symm hj)]; exact h2 j hj, by rw [List.length_set]; exact h3, fun b hb => ?_, fun b hb => ?_⟩
    · rw [upd_ne fun z => hb (by rw [z]; exact mem)]
      exact h4 b hb
    · by_cases z : b = as[i]
      · rw [z]
        exact ⟨_, upd_same, by rw [List.length_append]; simp; omega⟩
      · rw [upd_ne z]
        obtain ⟨ws', e1, e2⟩ := h5 b hb
        exact ⟨ws', e1, by omega⟩
  · refine .inl ⟨⟨_, SqL.of hp', by rw [List.length_map]; omega⟩, hD _ _ h2 h3 h4 fun b hb => ?_⟩
    obtain ⟨ws, e, _⟩ := h5 b hb
    exact ⟨ws, e⟩
end
end LW
set_option Elab.async false
set_option linter.all false
set_option maxRecDepth 100000
set_option maxHeartbeats 0
/-! V13: the middle of _law_n_polys. -/
namespace LW
open PySem PySem.Spec PyProof.Rows L2 RT RZ Ev LamX LamD SupX
theorem getE_end {o0 o1 o : Ov} {i : Nat} (h : getE (some o0 :: some o1 :: List.replicate 22 none) i = some o) : (i = 0 ∧ o = o0) ∨ (i = 1 ∧ o = o1) := by
  match i with
  | 0 => cases h; exact .inl ⟨rfl, rfl⟩
  | 1 => cases h; exact .inr ⟨rfl, rfl⟩
  | i + 2 =>
    exfalso
    unfold getE at h
    rw [List.getElem?_cons_succ, List.getElem?_cons_succ] at h
    rcases q : (List.replicate 22 (none : Option Ov))[i]? with _ | x
    · rw [q] at h; cases h
    · rw [q] at h
      have := List.eq_of_mem_replicate (List.mem_of_getElem? q)
      subst this
      cases h
theorem upd_no {G : Hp} {a b : Addr} {o : HO} (h : upd G a o b = none) : b ≠ a ∧ G b = none := by
  by_cases z : b = a
  · rw [z, upd_same] at h; cases h
  · rw [upd_ne z] at h; exact ⟨z, h⟩
section
variable {P : Program} {w : World} {K : Frag} {mg : Str → Option Value} {base : Heap} {a : Nat → Addr} {fd : Nat → FuncData} {n : Nat} {f : Addr} {cdv : Value} {A : Around} {outer : List PySem.Env} {s : Shared} {H : Hp} {E : XK} {Tb : List (Addr × Str)} {Ap : List (Nat × Addr)} {G0 : Hp}
/-- part 2 as a reading -/
def tP2 (K : Frag) (Tb : List (Addr × Str)) (cs : CS) : TS := fun D σ H => ∃ A G0, NoTb G0 ∧ (∀ p ∈ A, p.1 ∈ [0, 1, 12]) ∧ tEvSs2 K Tb A G0 cs i__law_n_polys2 D σ H
abbrev partM : List Stmt := ((defBody sPol).drop 5).take 7
theorem sb2_M (g : Good P w K mg base a fd n) (T : Txt K mg a fd) (hrepr : mg "repr" = none) (hr : Room n (A.deeper (envOfC "_law_n_polys" (defScope sPol) s.heap.objs.size f cdv))) (hgd : A.guards = some []) (hn : NoTb G0) (hio : ∀ p ∈ Ap, p.1 ∈ [0]) :
    SB2 (cx__law_n_polys P w K mg base f cdv A outer s H E) Tb Ap G0 (callN Φ n) partM (.cons (.prim (prM (callN Φ n))) .nil) := by
  have p2 : PSs (cx__law_n_polys P w K mg base f cdv A outer s H E) (((defBody sPol).drop 6).take 5) (tP2 K Tb (callN Φ n)) := ⟨fun pins s' σ H' D I ⟨A', G', hn', hio', h⟩ => (b2__law_n_polys2 g T hrepr hr hgd hn' hio').pss.run pins s' σ H' D I h⟩
  refine sb2_pss (pss_cons (ps_set (i := 12) sc__law_n_polys.nd rfl (Or.inl rfl) (pe_lst (pa_cons (pe_evAny (A := Ap) fun G => se_told0 g T hr) (pa_cons (pe_evAny (A := Ap) fun G => se_told1 g T hr) (pa_cons (pe_evAny (A := Ap) fun G => se_told2 g T hr) (pa_cons (pe_evAny (A := Ap) fun G => se_told3 g T hr) pa_nil))))))
    (pss_app (l1 := ((defBody sPol).drop 6).take 5) (l2 := ((defBody sPol).drop 11).take 1) p2
      (pss_one (ps_for PassesOwn.never rfl (pi_list (pv 12)) (pg_name (i := 16) sc__law_n_polys.nd rfl (Or.inl rfl)) (pss_one (ps_expr (pe_bm PySem.F.plainAttrs_list PySem.F.slot_list_append PySem.F.type_list_append mt_append (pv 16) (pa_cons pe_str pa_nil)))))))) (fun σ H ρ out ρ' R e => ?_)
  have e : prM (callN Φ n) ρ = some (out, ρ') := by
    rw [b_cons, s_prim] at e
    cases q : prM (callN Φ n) ρ with
    | none => rw [q] at e; cases e
    | some x =>
      obtain ⟨o1, ρ1⟩ := x
      rw [q] at e
      have hx : o1 = .next := by
        obtain ⟨_, _, _, _, _, _, _, _, _, _, _, _, _, _, _, _, _, _, _, _, _, _, _, z, _⟩ := prM_some q
        exact z
      subst hx
      simpa using e
  obtain ⟨Y, x1, x2, x3, x4, ρ1, ρ2, ρ3, ρ4, ρ5, x, y, z, h1, hlen, e1, e2, e3, e4, hx, e5, h0, hl5, rfl, rfl⟩ := prM_some e
  obtain ⟨G, F0, gg, tG, Rl⟩ := R
  have sl : σ.length = 24 := by rw [← Rl.len]; exact hlen
  obtain ⟨v1, hs1, dv1⟩ := Rl.imm 1 _ h1
  cases dv1 with
  | lst hb1 dY =>
    rename_i b1 wY
    -- the four rows
    have Ra := Rl.reG (.refl (full H σ ρ))
    refine ⟨full H σ ρ, F0, ρ, _, _, Ra, e1, fun va H1 P1 => ?_⟩
    obtain ⟨F1, a1, ws1, rfl, sF1, ga1, fa1, nF1, ha1, da1, R1⟩ := own_step P1
    refine ⟨_, F1, ρ1, _, _, R1, e2, fun vb H2 P2 => ?_⟩
    obtain ⟨F2, a2, ws2, rfl, sF2, ga2, fa2, nF2, ha2, da2, R2x⟩ := own_step P2
    refine ⟨_, F2, ρ2, _, _, R2x, e3, fun vc H3 P3 => ?_⟩
    obtain ⟨F3, a3, ws3, rfl, sF3, ga3, fa3, nF3, ha3, da3, R3⟩ := own_step P3
    refine ⟨_, F3, ρ3, _, _, R3, e4, fun vd H4 P4 => ?_⟩
    obtain ⟨F4, a4, ws4, rfl, sF4, ga4, fa4, nF4, ha4, da4, R4⟩ := own_step P4
    refine ⟨by rw [sizeLine_eq]; exact (by decide : 4 ≤ 16777216), fun p hp => ?_⟩
    obtain ⟨n21, g02⟩ := upd_no ga2
    obtain ⟨n32, ga3⟩ := upd_no ga3
    obtain ⟨n31, g03⟩ := upd_no ga3
    obtain ⟨n43, ga4⟩ := upd_no ga4
    obtain ⟨n42, ga4⟩ := upd_no ga4
    obtain ⟨n41, g04⟩ := upd_no ga4
    generalize hG4 : upd (upd (upd (upd (full H σ ρ) a1 (.lst ws1)) a2 (.lst ws2)) a3 (.lst ws3)) a4 (.lst ws4) = G4 at R4
    have q1 : G4 a1 = some (.lst ws1) := by rw [← hG4, upd_ne n41.symm, upd_ne n31.symm, upd_ne n21.symm, upd_same]
    have q2 : G4 a2 = some (.lst ws2) := by rw [← hG4, upd_ne n42.symm, upd_ne n32.symm, upd_same]
    have q3 : G4 a3 = some (.lst ws3) := by rw [← hG4, upd_ne n43.symm, upd_same]
    have q4 : G4 a4 = some (.lst ws4) := by rw [← hG4, upd_same]
    have s04 : Same (full H σ ρ) G4 := fun b x hb => by
      have z1 : b ≠ a1 := fun z => by rw [z, ga1] at hb; cases hb
      have z2 : b ≠ a2 := fun z => by rw [z, g02] at hb; cases hb
      have z3 : b ≠ a3 := fun z => by rw [z, g03] at hb; cases hb
      have z4 : b ≠ a4 := fun z => by rw [z, g04] at hb; cases hb
      rw [← hG4, upd_ne z4, upd_ne z3, upd_ne z2, upd_ne z1]
      exact hb
    have gp : G4 p = none := R4.frm.free hp
    have np : ∀ b ws, G4 b = some (.lst ws) → b ≠ p := fun b ws hb z => by rw [z, gp] at hb; cases hb
    -- the list of the rows
    have R5a : Rel K Ap G4 F4 (upd H4 p (.lst [.ref a1, .ref a2, .ref a3, .ref a4])) σ ρ4 := R4.grow (same_upd hp)
    generalize hHX : upd H4 p (.lst [.ref a1, .ref a2, .ref a3, .ref a4]) = HX at R5a
    have hXp : HX p = some (.lst [.ref a1, .ref a2, .ref a3, .ref a4]) := by rw [← hHX, upd_same]
    have nh : ¬ Held σ ρ4 p := fun ⟨i, ys, z1, z2⟩ => by
      obtain ⟨b, z3, _, _, ws, z4, _⟩ := R4.own i ys z1
      rw [z2] at z3; cases z3
      rw [hp] at z4; cases z4
    have R5b : Rel K Ap (upd G4 p (.lst [.ref a1, .ref a2, .ref a3, .ref a4])) F4 HX σ ρ4 := R5a.reG fun b x hb => by
      by_cases z : b = p
      · rw [z, upd_same] at hb
        cases hb
        rw [z, full_not nh]
        exact hXp
      · rw [upd_ne z] at hb
        exact R5a.leFull _ _ hb
    have s45 : Same G4 (upd G4 p (.lst [.ref a1, .ref a2, .ref a3, .ref a4])) := same_upd gp
    have gp5 : upd G4 p (.lst [.ref a1, .ref a2, .ref a3, .ref a4]) p = some (.lst [.ref a1, .ref a2, .ref a3, .ref a4]) := upd_same
    generalize upd G4 p (.lst [.ref a1, .ref a2, .ref a3, .ref a4]) = G5 at R5b s45 gp5
    obtain ⟨F5, R5c, sF5, sD⟩ := R5b.reF (.refl _)
    have dn : Dn K F5 (.ref p) (.list [.list x1, .list x2, .list x3, .list x4]) := .lst (sD _ _ gp5) (.cons (.lst (sD _ _ (s45 _ _ q1)) (da1.mono (((sF2.trans sF3).trans sF4).trans sF5)))
      (.cons (.lst (sD _ _ (s45 _ _ q2)) (da2.mono ((sF3.trans sF4).trans sF5))) (.cons (.lst (sD _ _ (s45 _ _ q3)) (da3.mono (sF4.trans sF5))) (.cons (.lst (sD _ _ (s45 _ _ q4)) (da4.mono sF5)) .nil))))
    have nio : ∀ i, i ≠ 0 → ∀ q ∈ Ap, q.1 ≠ i := fun i hi q hq z => by
      have := hio q hq
      simp at this
      omega
    have R5d := R5c.store (i := 12) dn (nio 12 (by decide))
    have s05 : Same (full H σ ρ) G5 := s04.trans s45
    have tG5 : Tabs Tb G5 := (tG.ext Rl.leFull).ext s05
    have R2a : R2 K Tb Ap (untb G5) HX (σ.set 12 (some (.ref p))) (setE ρ4 12 (.imm (.list [.list x1, .list x2, .list x3, .list x4]))) := ⟨G5, F5, untb_le, tG5, R5d⟩
    have R2b := (R2a.addPin (i := 12) (a := p) (by rw [List.getElem?_set_self (by omega)])).addPin (i := 1) (a := b1) (by rw [List.getElem?_set_ne (by decide)]; exact hs1)
    refine ⟨_, untb G5, untb_no, fun q hq => ?_, _, .next, ρ5, R2b, e5, ⟨fun σ6 H6 ⟨_, R6⟩ => ?_, fun v H6 ⟨_, _, z, _⟩ => (by cases z), fun σ6 H6 ⟨z, _⟩ => (by cases z), fun σ6 H6 ⟨z, _⟩ => (by cases z)⟩⟩
    · rcases List.mem_cons.mp hq with rfl | hq
      · simp
      · rcases List.mem_cons.mp hq with rfl | hq
        · simp
        · have := hio q hq
          simp at this
          simp [this]
    have U : ∀ b x, G5 b = some x → (∀ ps, x ≠ .tbl ps) → H6 b = some x := fun b x hb hx => R6.frm _ _ (untb_some hb hx)
    have nl : ∀ (ws : List V) (ps : Array Value), (HO.lst ws) ≠ .tbl ps := fun _ _ z => by cases z
    have U1 := U _ _ (s45 _ _ q1) (nl _)
    have U2 := U _ _ (s45 _ _ q2) (nl _)
    have U3 := U _ _ (s45 _ _ q3) (nl _)
    have U4 := U _ _ (s45 _ _ q4) (nl _)
    refine rows_loop (as := [a1, a2, a3, a4]) (L := 1000) (by rw [sizeLine_eq]; exact (by decide : 1000 + 4 < 16777216)) (U _ _ gp5 (nl _)) ?_ ?_ (R6.pin (12, p) (by simp)) (by rw [← R6.len]; exact hl5) (fun σ8 H8 hs8 hl8 hn8 ha8 => ⟨rfl, ?_⟩)
    · simp only [List.mem_cons, List.not_mem_nil, or_false, not_or]
      exact ⟨(np _ _ q1).symm, (np _ _ q2).symm, (np _ _ q3).symm, (np _ _ q4).symm⟩
    · intro b hb
      simp only [List.mem_cons, List.not_mem_nil, or_false] at hb
      rcases hb with rfl | rfl | rfl | rfl
      · exact ⟨_, U1, by rw [da1.len]; exact hx.1⟩
      · exact ⟨_, U2, by rw [da2.len]; exact hx.2.1⟩
      · exact ⟨_, U3, by rw [da3.len]; exact hx.2.2.1⟩
      · exact ⟨_, U4, by rw [da4.len]; exact hx.2.2.2⟩
    · -- back to data without the rows
      have tb6 := R6.tabs
      obtain ⟨G6, F6, g6, t6, Rl6⟩ := id R6
      obtain ⟨as0, hs0, gs0, fs0, ws0, hw0, dw0⟩ := Rl6.own 0 _ h0
      have u0 : untb G5 as0 = none := by
        cases q : untb G5 as0 with
        | none => rfl
        | some x => rw [g6 _ _ q] at gs0; cases gs0
      have na0 : as0 ∉ [a1, a2, a3, a4] := by
        simp only [List.mem_cons, List.not_mem_nil, or_false, not_or]
        refine ⟨fun z => ?_, fun z => ?_, fun z => ?_, fun z => ?_⟩ <;> subst z
        · rw [untb_some (s45 _ _ q1) (nl _)] at u0; cases u0
        · rw [untb_some (s45 _ _ q2) (nl _)] at u0; cases u0
        · rw [untb_some (s45 _ _ q3) (nl _)] at u0; cases u0
        · rw [untb_some (s45 _ _ q4) (nl _)] at u0; cases u0
      have stay : ∀ b x, full H σ ρ b = some x → (∀ ps, x ≠ .tbl ps) → H8 b = some x ∧ b ≠ as0 := fun b x hb hx => by
        have z1 : b ∉ [a1, a2, a3, a4] := by
          simp only [List.mem_cons, List.not_mem_nil, or_false, not_or]
          exact ⟨fun z => (by rw [z, ga1] at hb; cases hb), fun z => (by rw [z, g02] at hb; cases hb), fun z => (by rw [z, g03] at hb; cases hb), fun z => (by rw [z, g04] at hb; cases hb)⟩
        refine ⟨by rw [hn8 b z1]; exact U _ _ (s05 _ _ hb) hx, fun z => ?_⟩
        rw [← z, untb_some (s05 _ _ hb) hx] at u0
        cases u0
      have s8 : ∀ i, i ≠ 16 → σ8[i]? = σ6[i]? := hs8
      have held : ∀ b, Held σ8 (some (.own [.int x, .int y, .int z]) :: some (.imm (.list Y)) :: List.replicate 22 none) b → b = as0 := fun b ⟨i, ys, z1, z2⟩ => by
        rcases getE_end z1 with ⟨rfl, _⟩ | ⟨_, z⟩
        · rw [s8 0 (by decide), hs0] at z2
          cases z2
          rfl
        · cases z
      have w8 : H8 as0 = some (.lst ws0) := by rw [hn8 _ na0]; exact hw0
      refine ⟨full H8 σ8 (some (.own [.int x, .int y, .int z]) :: some (.imm (.list Y)) :: List.replicate 22 none), untb F0, fun b x hb => ?_, tabs_lst tb6 fun b o hb ho => ?_, full_le, fun b x hb => ?_, fun i d hi => ?_, fun i ys hi => ?_, fun i j xs ys b hi hj z1 z2 => ?_, fun q hq => ?_, by rw [hl8]; rfl⟩
      · have hx : ∀ ps, x ≠ .tbl ps := fun ps z => by subst z; exact hn b ps hb
        obtain ⟨z1, z2⟩ := stay b x (Rl.leFull _ _ (gg _ _ hb)) hx
        rw [full_not fun z => z2 (held _ z)]
        exact z1
      · have z1 : b ∉ [a1, a2, a3, a4] := by
          simp only [List.mem_cons, List.not_mem_nil, or_false, not_or]
          refine ⟨fun z => ?_, fun z => ?_, fun z => ?_, fun z => ?_⟩ <;> subst z
          · rw [U1] at hb; cases hb; exact ho _ rfl
          · rw [U2] at hb; cases hb; exact ho _ rfl
          · rw [U3] at hb; cases hb; exact ho _ rfl
          · rw [U4] at hb; cases hb; exact ho _ rfl
        rw [full_not fun z => ?_, hn8 b z1]
        · exact hb
        · rw [held _ z, hw0] at hb
          cases hb
          exact ho _ rfl
      · exact (stay b x (Rl.leFullF _ _ (untb_le _ _ hb)) fun ps z => by subst z; exact untb_no _ _ hb).1
      · rcases getE_end hi with ⟨_, z⟩ | ⟨rfl, z⟩
        · cases z
        · cases z
          refine ⟨.ref b1, by rw [s8 1 (by decide)]; exact R6.pin (1, b1) (by simp), .lst (untb_some hb1 (nl _)) (DnA.monoN (fun b x h n => untb_some h n) dY)⟩
      · rcases getE_end hi with ⟨rfl, z⟩ | ⟨_, z⟩
        · cases z
          refine ⟨as0, by rw [s8 0 (by decide)]; exact hs0, full_held ⟨0, _, hi, by rw [s8 0 (by decide)]; exact hs0⟩, ?_, ws0, w8, ?_⟩
          · cases q : untb F0 as0 with
            | none => rfl
            | some x => exact absurd rfl (stay _ x (Rl.leFullF _ _ (untb_le _ _ q)) fun ps z => by subst z; exact untb_no _ _ q).2
          · cases dw0 with
            | cons d1 q =>
            cases q with
            | cons d2 q =>
            cases q with
            | cons d3 q =>
            cases q
            cases d1; cases d2; cases d3
            exact .cons (.int _) (.cons (.int _) (.cons (.int _) .nil))
        · cases z
      · rcases getE_end hi with ⟨rfl, _⟩ | ⟨_, z⟩
        · rcases getE_end hj with ⟨rfl, _⟩ | ⟨_, z⟩
          · rfl
          · cases z
        · cases z
      · have := hio q hq
        simp at this
        rw [s8 q.1 (by omega)]
        exact R6.pin q (by simp [hq])
end
end LW
set_option Elab.async false
set_option linter.all false
set_option maxRecDepth 100000
set_option maxHeartbeats 0
/-! V14: k01's great defs keep their promises. -/
namespace LW
open PySem PySem.Spec PyProof.Rows L2 RT RZ Ev LamX LamD SupX
abbrev d_n_ratios : FD := ⟨1, 16, [0], i__law_n_ratios⟩
def i_n_polys (cs : CS) : ISs := appI i__law_n_polys1 (appI (.cons (.prim (prM cs)) .nil) i__law_n_polys3)
abbrev d_n_polys (cs : CS) : FD := ⟨1, 24, [0], i_n_polys cs⟩
section
variable {P : Program} {w : World} {K : Frag} {mg : Str → Option Value} {base : Heap} {a : Nat → Addr} {fd : Nat → FuncData} {m : Nat} {Cr Cn Cp gm c Pt fr : Addr} {fdm fdr : FuncData} {Tb : List (Addr × Str)}
theorem ok_ratios (h : Hnd P w K mg base a fd Cr Cn Cp gm fdm) (hrepr : mg "repr" = none) (Fr : FunD K "_law_n_ratios" "_law_n_ratios" (defArgs sRat) (defBody sRat) (defScope sRat) [] [] fr fdr) (hcode : fdr.code = .ref c) (o : Own1 base mg Tb "_law_n_ratios.<locals>.<lambda>" c Pt) :
    FnOkG P w K mg base CX0 (m + 7) fr fdr p__law_n_ratios (spB2 K Tb (runD (callN Φ (m + 6)) d_n_ratios) 1) :=
  fn2_step (d := d_n_ratios) Fr sc__law_n_ratios rfl rfl (fun cdv A outer s H E G0 Ap hr hgd hcd hnt hio =>
    b2__law_n_ratios (h.good _) h.txt hrepr hr hgd hnt hio (fun G0 hn => s2_A h o (hcd.symm.trans hcode) hr hn hio) (fun G0 hn => s2_B h o (hcd.symm.trans hcode) hr hn hio))
theorem ok_polys (h : Hnd P w K mg base a fd Cr Cn Cp gm fdm) (hrepr : mg "repr" = none) (Fr : FunD K "_law_n_polys" "_law_n_polys" (defArgs sPol) (defBody sPol) (defScope sPol) [] [] fr fdr) (hcode : fdr.code = .ref c) (o : Own1 base mg Tb "_law_n_polys.<locals>.<lambda>" c Pt) :
    FnOkG P w K mg base CX0 (m + 8) fr fdr p__law_n_polys (spB2 K Tb (runD (callN Φ (m + 7)) (d_n_polys (callN Φ (m + 7)))) 1) :=
  fn2_step (d := d_n_polys (callN Φ (m + 7))) Fr sc__law_n_polys rfl rfl (fun cdv A outer s H E G0 Ap hr hgd hcd hnt hio =>
    sb2_app (l1 := ((defBody sPol).drop 0).take 5) (l2 := partM ++ (defBody sPol).drop 12) (b2__law_n_polys1 (h.good _) h.txt hrepr hr hgd hnt hio)
      (sb2_app (sb2_M (h.good _) h.txt hrepr hr hgd hnt hio) (b2__law_n_polys3 (h.good _) h.txt hrepr hr hgd hnt hio (fun G0 hn => sb2_C h o (hcd.symm.trans hcode) hr hn hio) (fun G0 hn => sb2_D h o (hcd.symm.trans hcode) hr hn hio))))
end
end LW
set_option Elab.async false
set_option linter.all false
set_option maxRecDepth 100000
set_option maxHeartbeats 0
/-! V15: _law_n_ratios tells True (plain). -/
namespace LW
open PySem PySem.Spec Ev
section
variable {cs : CS} {ρ ρ1 : Ev.Env}
theorem stepN {st : IS} {ss : ISs} (h : evS cs st ρ = some (.next, ρ1)) : evSs cs (.cons st ss) ρ = evSs cs ss ρ1 := by rw [b_cons, h]; rfl
theorem stepR {st : IS} {ss : ISs} {o : Ov} (h : evS cs st ρ = some (.ret o, ρ1)) : evSs cs (.cons st ss) ρ = some (.ret o, ρ1) := by rw [b_cons, h]; rfl
end
/-- a thing that _law_n_ratios may ask -/
def thingOk (d : PyData) : Prop := (∀ i j, seqOf d = some [.int i, .int j] → j.natAbs < 2 ^ 9000) ∧ veryD d = true
def bodyR : ISs := .cons (.set 11 (.call 39 (.cons (.var 10) (.nil)))) (.cons (.ite (.not (.val (.call 30 (.cons (.lst (.cons (.call 4 (.cons (.var 10) (.nil))) (.cons (.callk 4 [0] (.cons (.var 10) (.nil))) (.nil)))) (.cons (.lst (.cons (.var 11) (.cons (.var 11) (.nil)))) (.nil)))))) (.cons (.ret (.lit (.bool false))) (.nil)) (.nil)) (.cons (.prim prB) (.nil)))
theorem thingsBody {m : Nat} {z : List (Option Ov)} (hz : z.length = 10) {d : PyData} (hd : thingOk d) (s11 : Option Ov) : evSs (callN Φ (m + 6)) bodyR (z ++ [some (.imm d), s11, none, none, none, none]) = some (.next, z ++ [some (.imm d), some (.imm (.bool (ratD d))), none, none, none, none]) := by
  have e1 : callN Φ (m + 6) 39 [.imm d] = _ := r_is_ok (n := m + 4) hd.1
  have e2 : callN Φ (m + 6) 30 [.imm (.list [.bool (ratD d), .bool (ratD d)]), .imm (.list [.bool (ratD d), .bool (ratD d)])] = some (.imm (.bool true), []) := same_ok 2 (m + 3) _ rfl (by simp [dep, depA])
  have e3 : callN Φ (m + 6) 4 [.imm d] = _ := is_ratio_ok (n := m + 4)
  match z, hz with
  | [z0, z1, z2, z3, z4, z5, z6, z7, z8, z9], _ =>
    unfold bodyR
    have b : prB [z0, z1, z2, z3, z4, z5, z6, z7, z8, z9, some (.imm d), some (.imm (.bool (ratD d))), none, none, none, none] = some (.next, [z0, z1, z2, z3, z4, z5, z6, z7, z8, z9, some (.imm d), some (.imm (.bool (ratD d))), none, none, none, none]) := by
      show (if (16 == 16 && ratD d == ratD d && (ratD d || veryD d)) = true then _ else none) = _
      rw [hd.2]
      simp
    simp -implicitDefEqProofs [e1, e2, e3, b, ll]
theorem thingsLoop {m : Nat} {z : List (Option Ov)} (hz : z.length = 10) : ∀ (ds : List PyData), (∀ d ∈ ds, thingOk d) → ∀ s10 s11, ∃ a b, goFor [10] (evSs (callN Φ (m + 6)) bodyR) ds (z ++ [s10, s11, none, none, none, none]) = some (.next, z ++ [a, b, none, none, none, none])
  | [], _, s10, s11 => ⟨s10, s11, goFor_nil⟩
  | d :: ds, h, s10, s11 => by
    obtain ⟨a, b, e⟩ := thingsLoop (m := m) hz ds (fun x hx => h x (List.mem_cons_of_mem _ hx)) (some (.imm d)) (some (.imm (.bool (ratD d))))
    refine ⟨a, b, (goFor_go (ρ1 := z ++ [some (.imm d), s11, none, none, none, none]) ?_ (thingsBody hz (h d List.mem_cons_self) s11)).trans e⟩
    match z, hz with
    | [z0, z1, z2, z3, z4, z5, z6, z7, z8, z9], _ => simp
theorem ratios_plain {m K : Nat} {l : List PyData} (h : Spr K l) (hK : K ≤ 1000000) : ∃ l', runD (callN Φ (m + 6)) d_n_ratios [.own l] = some (.imm (.bool true), [l']) ∧ Spr (K + 20) l' := by
  -- most
  have pw : powOk 10 50 = true := by decide
  obtain ⟨u, l1, e1, hu, s1⟩ := pick_ok (n := m + 4) (d := .list [.int 1, .int 5, .int 100, .int (10 ^ 50)]) h (by omega) rfl (by simp) (by simp)
  obtain ⟨q, rfl, q0, qb⟩ : ∃ q : Int, u = .int q ∧ 0 < q ∧ q.natAbs < 2 ^ 167 := by
    simp only [List.mem_cons, List.not_mem_nil, or_false] at hu
    rcases hu with rfl | rfl | rfl | rfl
    · exact ⟨_, rfl, by decide, by decide⟩
    · exact ⟨_, rfl, by decide, by decide⟩
    · exact ⟨_, rfl, by decide, by decide⟩
    · exact ⟨_, rfl, by decide, by decide⟩
  obtain ⟨x, l2, e2, nx, bx, s2⟩ := r_drawn_ok (n := m + 3) (m := q) (k := 167) s1 (by omega) q0 qb (by decide) (by decide)
  obtain ⟨y, l3, e3, ny, by', s3⟩ := r_drawn_ok (n := m + 3) (m := q) (k := 167) s2 (by omega) q0 qb (by decide) (by decide)
  obtain ⟨d1, l4, e4, ls1, s4⟩ := loose_ok 1 (m + 4) _ _ _ s3 (nd_fr x).1 (by rw [(nd_fr x).2.2]; omega) (by rw [(nd_fr x).2.1]; omega)
  obtain ⟨d2, l5, e5, ls2, s5⟩ := loose_ok 1 (m + 4) _ _ _ s4 (nd_fr y).1 (by rw [(nd_fr y).2.2]; omega) (by rw [(nd_fr y).2.1]; rw [(nd_fr x).2.1]; omega)
  have f1 := ls1.fr
  have f2 := ls2.fr
  unfold runD
  rw [if_pos ⟨rfl, rfl⟩]
  have e1 : callN Φ (m + 6) 28 [.own l, .imm (.list [.int 1, .int 5, .int 100, .int 100000000000000000000000000000000000000000000000000])] = some (.imm (.int q), [l1]) := by
    rw [show (100000000000000000000000000000000000000000000000000 : Int) = 10 ^ 50 from by decide]
    exact e1
  have e2 : callN Φ (m + 6) 38 [.own l1, .imm (.int q)] = _ := e2
  have e3 : callN Φ (m + 6) 38 [.own l2, .imm (.int q)] = _ := e3
  have e4 : callN Φ (m + 6) 31 [.own l3, .imm (fr x)] = _ := e4
  have e5 : callN Φ (m + 6) 31 [.own l4, .imm (fr y)] = _ := e5
  have sh := shows_frs f1 f2 bx by' (by decide) (by decide)
  have e6 : callN Φ (m + 6) 37 [.imm (fr y)] = _ := rminus_ok (n := m + 5) (x := y) (.t)
  have e7 : callN Φ (m + 6) 34 [.imm (fr x), .imm (fr (pneg y))] = _ := rsum_ok (n := m + 4) (j := 167) (k := 167) (Fr.t) (Fr.t) nx.dz (NR_pneg ny).dz bx (Bd_pneg by') (by decide) (by decide)
  have e8 : callN Φ (m + 6) 34 [.imm (fr x), .imm (fr y)] = _ := rsum_ok (n := m + 4) (j := 167) (k := 167) (Fr.t) (Fr.t) nx.dz ny.dz bx by' (by decide) (by decide)
  have e9 : callN Φ (m + 6) 35 [.imm (fr x), .imm (fr y)] = _ := rtimes_ok (n := m + 4) (j := 167) (k := 167) (Fr.t) (Fr.t) nx.dz ny.dz bx by' (by decide) (by decide)
  have g0 : callN Φ (m + 6) 10 [.imm d1, .imm d2] = _ := ratio_sum_ok (n := m + 2) (j := 167) (k := 167) f1 f2 nx ny bx by' (by decide) (by decide)
  have g1 : callN Φ (m + 6) 11 [.imm d1, .imm d2] = _ := ratio_less_ok (n := m + 2) (j := 167) (k := 167) f1 f2 nx ny bx by' (by decide) (by decide)
  have g2 : callN Φ (m + 6) 12 [.imm d1, .imm d2] = _ := ratio_times_ok (n := m + 2) (j := 167) (k := 167) f1 f2 nx ny bx by' (by decide) (by decide)
  have k0 : callN Φ (m + 6) 10 [.imm (fr x), .imm (fr y)] = _ := ratio_sum_ok (n := m + 2) (j := 167) (k := 167) (Fr.t) (Fr.t) nx ny bx by' (by decide) (by decide)
  have k1 : callN Φ (m + 6) 11 [.imm (fr x), .imm (fr y)] = _ := ratio_less_ok (n := m + 2) (j := 167) (k := 167) (Fr.t) (Fr.t) nx ny bx by' (by decide) (by decide)
  have k2 : callN Φ (m + 6) 12 [.imm (fr x), .imm (fr y)] = _ := ratio_times_ok (n := m + 2) (j := 167) (k := 167) (Fr.t) (Fr.t) nx ny bx by' (by decide) (by decide)
  have due : ∀ a b c : Q2, callN Φ (m + 6) 30 [.imm (.list [fr a, fr b, fr c]), .imm (.list [fr a, fr b, fr c])] = some (.imm (.bool true), []) := fun a b c => same_ok 2 (m + 3) _ rfl (by simp [dep, depA, fr])
  have main : ∃ ρE, evSs (callN Φ (m + 6)) i__law_n_ratios (some (.own l) :: List.replicate 15 none) = some (.ret (.imm (.bool true)), some (.own l5) :: ρE) := by
    unfold i__law_n_ratios
    obtain ⟨oc, hc1, hc2⟩ := copy_ok 4 (m + 1) (.list [fr x, .list [.int x.1, .int x.2], .tuple [.int (x.1 * 2), .int (x.2 * 2)], .tuple [.int x.1, .int (-x.2)], .tuple [.int x.1, .int 0], .tuple [.int 0, .int 2], .tuple [.int 0, .int 1], .tuple [.bool true, .int 1], .tuple [.int 1, .bool true], .tuple [.int 1, .none], .tuple [.int x.1], .tuple [.int x.1, .int x.2, .int x.1], .none, .int 0, .int 1, .str "", .str "12", .dict [], .list [], .list [fr x], .tuple [.int 1, .int 2, .int 3]]) (by rfl) (by simp [dep, depA, fr])
    have hc1 : callN Φ (m + 6) 32 [.imm (.list [fr x, .list [.int x.1, .int x.2], .tuple [.int (x.1 * 2), .int (x.2 * 2)], .tuple [.int x.1, .int (-x.2)], .tuple [.int x.1, .int 0], .tuple [.int 0, .int 2], .tuple [.int 0, .int 1], .tuple [.bool true, .int 1], .tuple [.int 1, .bool true], .tuple [.int 1, .none], .tuple [.int x.1], .tuple [.int x.1, .int x.2, .int x.1], .none, .int 0, .int 1, .str "", .str "12", .dict [], .list [], .list [fr x], .tuple [.int 1, .int 2, .int 3]])] = some (oc, []) := hc1
    have up : ∀ j : Int, j.natAbs < 2 ^ 200 → j.natAbs < 2 ^ 9000 := fun j h => Nat.lt_of_lt_of_le h (Nat.pow_le_pow_right (by decide) (by decide))
    have w1 : x.2.natAbs < 2 ^ 200 := Nat.lt_of_lt_of_le bx.2 (Nat.pow_le_pow_right (by decide) (by decide))
    have w2 : (x.2 * 2).natAbs < 2 ^ 200 := by
      have := bx.2
      have p : (2 : Nat) ^ 200 = 2 ^ 167 * 2 ^ 33 := by decide
      omega
    have w3 : (-x.2).natAbs < 2 ^ 200 := by omega
    have ok : ∀ d ∈ [fr x, .list [.int x.1, .int x.2], .tuple [.int (x.1 * 2), .int (x.2 * 2)], .tuple [.int x.1, .int (-x.2)], .tuple [.int x.1, .int 0], .tuple [.int 0, .int 2], .tuple [.int 0, .int 1], .tuple [.bool true, .int 1], .tuple [.int 1, .bool true], .tuple [.int 1, .none], .tuple [.int x.1], .tuple [.int x.1, .int x.2, .int x.1], .none, .int 0, .int 1, .str "", .str "12", .dict [], .list [], .list [fr x], .tuple [.int 1, .int 2, .int 3]], thingOk d := by
      intro d hd
      simp only [List.mem_cons, List.not_mem_nil, or_false] at hd
      rcases hd with rfl | rfl | rfl | rfl | rfl | rfl | rfl | rfl | rfl | rfl | rfl | rfl | rfl | rfl | rfl | rfl | rfl | rfl | rfl | rfl | rfl
      all_goals refine ⟨fun i j hij => ?_, by first | rfl | decide +kernel⟩
      all_goals first | (cases hij; done) | (cases hij; first | exact up _ w1 | exact up _ w2 | exact up _ w3 | exact up _ (by decide))
    obtain ⟨sa, sb, hloop⟩ := thingsLoop (m := m) (z := [some (.own l5), some (.imm (.int q)), some (.imm (fr x)), some (.imm (fr y)), some (.own [d1, d2]), some (.imm (.str (PyData.list [d1, d2]).shown)), some (.imm (fr (padd x (pneg y)))), some (.imm (.list [fr (padd x y), fr (padd x (pneg y)), fr (pmul x y)])), some (.imm (.list [fr (padd x y), fr (padd x (pneg y)), fr (pmul x y)])), some (.imm (.list [fr x, .list [.int x.1, .int x.2], .tuple [.int (x.1 * 2), .int (x.2 * 2)], .tuple [.int x.1, .int (-x.2)], .tuple [.int x.1, .int 0], .tuple [.int 0, .int 2], .tuple [.int 0, .int 1], .tuple [.bool true, .int 1], .tuple [.int 1, .bool true], .tuple [.int 1, .none], .tuple [.int x.1], .tuple [.int x.1, .int x.2, .int x.1], .none, .int 0, .int 1, .str "", .str "12", .dict [], .list [], .list [fr x], .tuple [.int 1, .int 2, .int 3]]))]) rfl _ ok none none
    refine ⟨[some (.imm (.int q)), some (.imm (fr x)), some (.imm (fr y)), some (.own [d1, d2]), some (.imm (.str (PyData.list [d1, d2]).shown)), some (.imm (fr (padd x (pneg y)))), some (.imm (.list [fr (padd x y), fr (padd x (pneg y)), fr (pmul x y)])), some (.imm (.list [fr (padd x y), fr (padd x (pneg y)), fr (pmul x y)])), some (.imm (.list [fr x, .list [.int x.1, .int x.2], .tuple [.int (x.1 * 2), .int (x.2 * 2)], .tuple [.int x.1, .int (-x.2)], .tuple [.int x.1, .int 0], .tuple [.int 0, .int 2], .tuple [.int 0, .int 1], .tuple [.bool true, .int 1], .tuple [.int 1, .bool true], .tuple [.int 1, .none], .tuple [.int x.1], .tuple [.int x.1, .int x.2, .int x.1], .none, .int 0, .int 1, .str "", .str "12", .dict [], .list [], .list [fr x], .tuple [.int 1, .int 2, .int 3]])), sa, sb, none, none, none, none], (stepN (ρ1 := [some (.own l1), some (.imm (.int q)), none, none, none, none, none, none, none, none, none, none, none, none, none, none]) (by simp -implicitDefEqProofs [e1, pw, ll])).trans ?_⟩
    refine (stepN (ρ1 := [some (.own l3), some (.imm (.int q)), some (.imm (fr x)), some (.imm (fr y)), none, none, none, none, none, none, none, none, none, none, none, none]) (by rw [s_unp (ov := .imm (.tuple [fr x, fr y])) (ρ1 := [some (.own l3), some (.imm (.int q)), none, none, none, none, none, none, none, none, none, none, none, none, none, none]) (by simp -implicitDefEqProofs [e2, e3, ll]) rfl]; rfl)).trans ?_
    refine (stepN (ρ1 := [some (.own l5), some (.imm (.int q)), some (.imm (fr x)), some (.imm (fr y)), some (.own [d1, d2]), none, none, none, none, none, none, none, none, none, none, none]) (by simp -implicitDefEqProofs [e4, e5, ll])).trans ?_
    have rp1 : reprV 4 [some (.own l5), some (.imm (.int q)), some (.imm (fr x)), some (.imm (fr y)), some (.own [d1, d2]), none, none, none, none, none, none, none, none, none, none, none] = _ := reprV_ok rfl sh
    refine (stepN (ρ1 := [some (.own l5), some (.imm (.int q)), some (.imm (fr x)), some (.imm (fr y)), some (.own [d1, d2]), some (.imm (.str (PyData.list [d1, d2]).shown)), none, none, none, none, none, none, none, none, none, none]) (by simp -implicitDefEqProofs [rp1])).trans ?_
    refine (stepN (ρ1 := [some (.own l5), some (.imm (.int q)), some (.imm (fr x)), some (.imm (fr y)), some (.own [d1, d2]), some (.imm (.str (PyData.list [d1, d2]).shown)), some (.imm (fr (padd x (pneg y)))), none, none, none, none, none, none, none, none, none]) (by simp -implicitDefEqProofs [e6, e7])).trans ?_
    refine (stepN (ρ1 := [some (.own l5), some (.imm (.int q)), some (.imm (fr x)), some (.imm (fr y)), some (.own [d1, d2]), some (.imm (.str (PyData.list [d1, d2]).shown)), some (.imm (fr (padd x (pneg y)))), some (.own [fr (padd x y), fr (padd x (pneg y)), fr (pmul x y)]), none, none, none, none, none, none, none, none]) (by simp -implicitDefEqProofs [e8, e9, ll])).trans ?_
    refine (stepN (ρ1 := [some (.own l5), some (.imm (.int q)), some (.imm (fr x)), some (.imm (fr y)), some (.own [d1, d2]), some (.imm (.str (PyData.list [d1, d2]).shown)), some (.imm (fr (padd x (pneg y)))), some (.own [fr (padd x y), fr (padd x (pneg y)), fr (pmul x y)]), some (.own [fr (padd x y), fr (psub x y), fr (pmul x y)]), none, none, none, none, none, none, none]) (by simp -implicitDefEqProofs [g0, g1, g2, ll])).trans ?_
    refine (stepN (ρ1 := [some (.own l5), some (.imm (.int q)), some (.imm (fr x)), some (.imm (fr y)), some (.own [d1, d2]), some (.imm (.str (PyData.list [d1, d2]).shown)), some (.imm (fr (padd x (pneg y)))), some (.imm (.list [fr (padd x y), fr (padd x (pneg y)), fr (pmul x y)])), some (.imm (.list [fr (padd x y), fr (padd x (pneg y)), fr (pmul x y)])), none, none, none, none, none, none, none]) (by simp -implicitDefEqProofs [psub_neg, k0, k1, k2, due, ll])).trans ?_
    have dz : y.1 ≠ 0 → callN Φ (m + 6) 13 [.imm d1, .imm d2] = some (.imm (fr (pdiv x y)), []) := fun z => ratio_over_ok (n := m + 2) (j := 167) (k := 167) f1 f2 nx ny z bx by' (by decide) (by decide)
    have dz2 : y.1 ≠ 0 → callN Φ (m + 6) 13 [.imm (fr x), .imm (.list [.int y.1, .int y.2])] = some (.imm (fr (pdiv x y)), []) := fun z => ratio_over_ok (n := m + 2) (j := 167) (k := 167) (Fr.t) (Fr.l) nx ny z bx by' (by decide) (by decide)
    have dz3 : y.1 ≠ 0 → callN Φ (m + 6) 36 [.imm (fr x), .imm (fr y)] = some (.imm (fr (pdiv x y)), []) := fun z => rover_ok (n := m + 4) (j := 167) (k := 167) (Fr.t) (Fr.t) nx.dz z bx by' (by decide) (by decide)
    have dz4 : ∀ a : Q2, callN Φ (m + 6) 30 [.imm (.list [fr a, fr a]), .imm (.list [fr a, fr a])] = some (.imm (.bool true), []) := fun a => same_ok 2 (m + 3) _ rfl (by simp [dep, depA, fr])
    have i0y : idxD (fr y) (.int 0) = some (.int y.1) := (Fr.t (x := y)).i0
    have hA : y.1 = 0 → prA [some (.own l5), some (.imm (.int q)), some (.imm (fr x)), some (.imm (fr y)), some (.own [d1, d2]), some (.imm (.str (PyData.list [d1, d2]).shown)), some (.imm (fr (padd x (pneg y)))), some (.imm (.list [fr (padd x y), fr (padd x (pneg y)), fr (pmul x y)])), some (.imm (.list [fr (padd x y), fr (padd x (pneg y)), fr (pmul x y)])), none, none, none, none, none, none, none] = some (.next, [some (.own l5), some (.imm (.int q)), some (.imm (fr x)), some (.imm (fr y)), some (.own [d1, d2]), some (.imm (.str (PyData.list [d1, d2]).shown)), some (.imm (fr (padd x (pneg y)))), some (.imm (.list [fr (padd x y), fr (padd x (pneg y)), fr (pmul x y)])), some (.imm (.list [fr (padd x y), fr (padd x (pneg y)), fr (pmul x y)])), none, none, none, none, none, none, none]) := fun hz => by
      have n0 : nought d2 = true := by simp [nought, f2.i0, hz]
      have so : PyData.strOk "nought" = true := by decide +kernel
      have eq0 : eqD (.list [.str "nought", d2]) (.list [.str "nought", d2]) = some true := by
        rcases f2 with rfl | rfl <;> simp [eqD, SeqAt.shaped, PyData.canLay0, PyData.canLayAll0, PyData.depth, PyData.depthAll, PyData.eqv, PyData.eqvAll, fr, frL, so]
      show (if (16 == 16 && ratD (fr x) && ratD d2 && nought d2 && (eqD (.list [.str "nought", d2]) (.list [.str "nought", d2]) == some true)) = true then _ else none) = _
      rw [fr_ratD (Fr.t) nx, fr_ratD f2 ny, n0, eq0]
      rfl
    refine (stepN (ρ1 := [some (.own l5), some (.imm (.int q)), some (.imm (fr x)), some (.imm (fr y)), some (.own [d1, d2]), some (.imm (.str (PyData.list [d1, d2]).shown)), some (.imm (fr (padd x (pneg y)))), some (.imm (.list [fr (padd x y), fr (padd x (pneg y)), fr (pmul x y)])), some (.imm (.list [fr (padd x y), fr (padd x (pneg y)), fr (pmul x y)])), none, none, none, none, none, none, none]) (by
      by_cases hz : y.1 = 0
      · simp -implicitDefEqProofs [i0y, hz, hA hz]
      · have rk : repOk 1 2 = true := by decide
        have yL : fnD .list [fr y] = some (.own [.int y.1, .int y.2]) := rfl
        simp -implicitDefEqProofs [i0y, hz, dz hz, dz2 hz, dz3 hz, dz4, rk, yL, ll])).trans ?_
    have mk1 : mulOk x.1 2 = true := mulOk_of (a := 167) (b := 2) bx.1 (by decide) (by decide) (by decide)
    have mk2 : mulOk x.2 2 = true := mulOk_of (a := 167) (b := 2) bx.2 (by decide) (by decide) (by decide)
    have i0x : idxD (fr x) (.int 0) = some (.int x.1) := (Fr.t (x := x)).i0
    have i1x : idxD (fr x) (.int 1) = some (.int x.2) := (Fr.t (x := x)).i1
    have xL : fnD .list [fr x] = some (.own [.int x.1, .int x.2]) := rfl
    refine (stepN (ρ1 := [some (.own l5), some (.imm (.int q)), some (.imm (fr x)), some (.imm (fr y)), some (.own [d1, d2]), some (.imm (.str (PyData.list [d1, d2]).shown)), some (.imm (fr (padd x (pneg y)))), some (.imm (.list [fr (padd x y), fr (padd x (pneg y)), fr (pmul x y)])), some (.imm (.list [fr (padd x y), fr (padd x (pneg y)), fr (pmul x y)])), some (.own [fr x, .list [.int x.1, .int x.2], .tuple [.int (x.1 * 2), .int (x.2 * 2)], .tuple [.int x.1, .int (-x.2)], .tuple [.int x.1, .int 0], .tuple [.int 0, .int 2], .tuple [.int 0, .int 1], .tuple [.bool true, .int 1], .tuple [.int 1, .bool true], .tuple [.int 1, .none]]), none, none, none, none, none, none]) (by simp -implicitDefEqProofs [i0x, i1x, xL, mk1, mk2, ll])).trans ?_
    have sx : slcD (fr x) none (some 1) = some (.imm (.tuple [.int x.1])) := rfl
    have ax : binD .add (fr x) (.tuple [.int x.1]) = some (.imm (.tuple [.int x.1, .int x.2, .int x.1])) := rfl
    refine (stepN (ρ1 := [some (.own l5), some (.imm (.int q)), some (.imm (fr x)), some (.imm (fr y)), some (.own [d1, d2]), some (.imm (.str (PyData.list [d1, d2]).shown)), some (.imm (fr (padd x (pneg y)))), some (.imm (.list [fr (padd x y), fr (padd x (pneg y)), fr (pmul x y)])), some (.imm (.list [fr (padd x y), fr (padd x (pneg y)), fr (pmul x y)])), some (.own [fr x, .list [.int x.1, .int x.2], .tuple [.int (x.1 * 2), .int (x.2 * 2)], .tuple [.int x.1, .int (-x.2)], .tuple [.int x.1, .int 0], .tuple [.int 0, .int 2], .tuple [.int 0, .int 1], .tuple [.bool true, .int 1], .tuple [.int 1, .bool true], .tuple [.int 1, .none], .tuple [.int x.1], .tuple [.int x.1, .int x.2, .int x.1], .none, .int 0, .int 1, .str "", .str "12", .dict [], .list [], .list [fr x], .tuple [.int 1, .int 2, .int 3]]), none, none, none, none, none, none]) (by simp -implicitDefEqProofs [sx, ax, dct0, ll])).trans ?_
    refine (stepN (ρ1 := [some (.own l5), some (.imm (.int q)), some (.imm (fr x)), some (.imm (fr y)), some (.own [d1, d2]), some (.imm (.str (PyData.list [d1, d2]).shown)), some (.imm (fr (padd x (pneg y)))), some (.imm (.list [fr (padd x y), fr (padd x (pneg y)), fr (pmul x y)])), some (.imm (.list [fr (padd x y), fr (padd x (pneg y)), fr (pmul x y)])), some (.imm (.list [fr x, .list [.int x.1, .int x.2], .tuple [.int (x.1 * 2), .int (x.2 * 2)], .tuple [.int x.1, .int (-x.2)], .tuple [.int x.1, .int 0], .tuple [.int 0, .int 2], .tuple [.int 0, .int 1], .tuple [.bool true, .int 1], .tuple [.int 1, .bool true], .tuple [.int 1, .none], .tuple [.int x.1], .tuple [.int x.1, .int x.2, .int x.1], .none, .int 0, .int 1, .str "", .str "12", .dict [], .list [], .list [fr x], .tuple [.int 1, .int 2, .int 3]]))] ++ [sa, sb, none, none, none, none]) (by
      rw [s_loop]
      have hg : evG (callN Φ (m + 6)) (.seq (.call 32 (.cons (.var 9) (.nil)))) [some (.own l5), some (.imm (.int q)), some (.imm (fr x)), some (.imm (fr y)), some (.own [d1, d2]), some (.imm (.str (PyData.list [d1, d2]).shown)), some (.imm (fr (padd x (pneg y)))), some (.imm (.list [fr (padd x y), fr (padd x (pneg y)), fr (pmul x y)])), some (.imm (.list [fr (padd x y), fr (padd x (pneg y)), fr (pmul x y)])), some (.own [fr x, .list [.int x.1, .int x.2], .tuple [.int (x.1 * 2), .int (x.2 * 2)], .tuple [.int x.1, .int (-x.2)], .tuple [.int x.1, .int 0], .tuple [.int 0, .int 2], .tuple [.int 0, .int 1], .tuple [.bool true, .int 1], .tuple [.int 1, .bool true], .tuple [.int 1, .none], .tuple [.int x.1], .tuple [.int x.1, .int x.2, .int x.1], .none, .int 0, .int 1, .str "", .str "12", .dict [], .list [], .list [fr x], .tuple [.int 1, .int 2, .int 3]]), none, none, none, none, none, none] = some ([fr x, .list [.int x.1, .int x.2], .tuple [.int (x.1 * 2), .int (x.2 * 2)], .tuple [.int x.1, .int (-x.2)], .tuple [.int x.1, .int 0], .tuple [.int 0, .int 2], .tuple [.int 0, .int 1], .tuple [.bool true, .int 1], .tuple [.int 1, .bool true], .tuple [.int 1, .none], .tuple [.int x.1], .tuple [.int x.1, .int x.2, .int x.1], .none, .int 0, .int 1, .str "", .str "12", .dict [], .list [], .list [fr x], .tuple [.int 1, .int 2, .int 3]], [some (.own l5), some (.imm (.int q)), some (.imm (fr x)), some (.imm (fr y)), some (.own [d1, d2]), some (.imm (.str (PyData.list [d1, d2]).shown)), some (.imm (fr (padd x (pneg y)))), some (.imm (.list [fr (padd x y), fr (padd x (pneg y)), fr (pmul x y)])), some (.imm (.list [fr (padd x y), fr (padd x (pneg y)), fr (pmul x y)])), some (.imm (.list [fr x, .list [.int x.1, .int x.2], .tuple [.int (x.1 * 2), .int (x.2 * 2)], .tuple [.int x.1, .int (-x.2)], .tuple [.int x.1, .int 0], .tuple [.int 0, .int 2], .tuple [.int 0, .int 1], .tuple [.bool true, .int 1], .tuple [.int 1, .bool true], .tuple [.int 1, .none], .tuple [.int x.1], .tuple [.int x.1, .int x.2, .int x.1], .none, .int 0, .int 1, .str "", .str "12", .dict [], .list [], .list [fr x], .tuple [.int 1, .int 2, .int 3]]))] ++ [none, none, none, none, none, none]) := by
        simp -implicitDefEqProofs [hc1, hc2]
      rw [hg]
      exact hloop)).trans ?_
    have rp2 : reprV 4 ([some (.own l5), some (.imm (.int q)), some (.imm (fr x)), some (.imm (fr y)), some (.own [d1, d2]), some (.imm (.str (PyData.list [d1, d2]).shown)), some (.imm (fr (padd x (pneg y)))), some (.imm (.list [fr (padd x y), fr (padd x (pneg y)), fr (pmul x y)])), some (.imm (.list [fr (padd x y), fr (padd x (pneg y)), fr (pmul x y)])), some (.imm (.list [fr x, .list [.int x.1, .int x.2], .tuple [.int (x.1 * 2), .int (x.2 * 2)], .tuple [.int x.1, .int (-x.2)], .tuple [.int x.1, .int 0], .tuple [.int 0, .int 2], .tuple [.int 0, .int 1], .tuple [.bool true, .int 1], .tuple [.int 1, .bool true], .tuple [.int 1, .none], .tuple [.int x.1], .tuple [.int x.1, .int x.2, .int x.1], .none, .int 0, .int 1, .str "", .str "12", .dict [], .list [], .list [fr x], .tuple [.int 1, .int 2, .int 3]]))] ++ [sa, sb, none, none, none, none]) = _ := reprV_ok rfl sh
    have sq := shown_eq (onlyI_fr f1) (onlyI_fr f2)
    exact stepR (by simp -implicitDefEqProofs only [List.cons_append, List.nil_append] at rp2 ⊢; simp -implicitDefEqProofs [rp2, sq])
  obtain ⟨ρE, hm⟩ := main
  refine ⟨l5, ?_, s5.mono (by rw [(nd_fr x).2.1, (nd_fr y).2.1]; omega)⟩
  have hm' : evSs (callN Φ (m + 6)) d_n_ratios.body (start0 d_n_ratios [.own l]) = some (.ret (.imm (.bool true)), some (.own l5) :: ρE) := hm
  rw [hm']
  rfl
end LW
set_option Elab.async false
set_option linter.all false
set_option maxRecDepth 100000
set_option maxHeartbeats 0
/-! V16: _law_n_polys, the first part (plain). -/
namespace LW
open PySem PySem.Spec Ev

theorem nd_list (X : List Q2) : nd (.list (X.map fr)) = true ∧ cnt (.list (X.map fr)) = X.length + 1 ∧ dep (.list (X.map fr)) ≤ 2 := by
  obtain ⟨h1, h2, h3⟩ := nd_frs X
  obtain ⟨q1, q2, q3⟩ := seq_dep (d := .list (X.map fr)) rfl
  exact ⟨by rw [q3]; exact h1, by rw [q2, h2], by rw [q1]; omega⟩
theorem pmul_comm (x y : Q2) : pmul x y = pmul y x := by
  unfold pmul
  rw [Int.mul_comm x.1, Int.mul_comm x.2]
theorem reprV_imm {i : Nat} {ρ : Ev.Env} {xs : List PyData} (h : getE ρ i = some (.imm (.list xs))) (hs : showsB (.list xs) = true) : reprV i ρ = some (.imm (.str (PyData.list xs).shown), ρ) := by
  unfold reprV
  rw [h]
  show (if (seqOf (PyData.list xs)).isSome && showsB (PyData.list xs) then _ else none) = _
  rw [hs]
  rfl
def duePol (X Y : List Q2) : List PyData := [.list ((ptrim (addL X Y)).map fr), .list ((ptrim (addL X (Y.map pneg))).map fr), .list ((ptrim (mulL X Y)).map fr), .list ((ptrim (derL X)).map fr)]

theorem goLc_ev {cs : CS} {ρ : Ev.Env} {is : List Nat} {e : Ev.Env → Option (Ov × Ev.Env)} {ds rs : List PyData} (hc : clrAll is ρ = ρ) (h : All2 (fun d r => ∃ ρ1 o, bindPat is d ρ = some ρ1 ∧ e ρ1 = some (o, ρ1) ∧ o.d = r ∧ clrAll is ρ1 = ρ) ds rs) : goLc is (evT cs .tt) e ds ρ = some (rs, ρ) :=
  goLc_all2 hc (h.imp fun d r _ ⟨ρ1, o, h1, h2, h3, h4⟩ => ⟨ρ1, ρ1, ρ1, o, h1, by rw [evT], h2, h3, h4⟩)

theorem sumRow {m : Nat} {X Z : List Q2} {b0 b2 b3 b4 b6 b7 : Option Ov} (hX : PB 4 X) (hZ : PB 4 Z) (lX : X.length ≤ 8) (lZ : Z.length ≤ 8) :
    ev (callN Φ (m + 7)) (.call 40 (.cons (.lc [11] (.rng1 (.var 5)) (.tt) (.call 34 (.cons (.call 41 (.cons (.var 1) (.cons (.var 11) (.nil)))) (.cons (.call 41 (.cons (.var 10) (.cons (.var 11) (.nil)))) (.nil))))) (.nil))) [b0, some (.imm (.list (X.map fr))), b2, b3, b4, some (.imm (.int ((max X.length Z.length : Nat) : Int))), b6, b7, none, none, some (.imm (.list (Z.map fr))), none, none, none, none, none, none, none, none, none, none, none, none, none] = some (.own ((ptrim (addL X Z)).map fr), [b0, some (.imm (.list (X.map fr))), b2, b3, b4, some (.imm (.int ((max X.length Z.length : Nat) : Int))), b6, b7, none, none, some (.imm (.list (Z.map fr))), none, none, none, none, none, none, none, none, none, none, none, none, none]) := by
  have hg : goLc [11] (evT (callN Φ (m + 7)) .tt) (ev (callN Φ (m + 7)) (.call 34 (.cons (.call 41 (.cons (.var 1) (.cons (.var 11) (.nil)))) (.cons (.call 41 (.cons (.var 10) (.cons (.var 11) (.nil)))) (.nil))))) (rngD 0 (max X.length Z.length)) [b0, some (.imm (.list (X.map fr))), b2, b3, b4, some (.imm (.int ((max X.length Z.length : Nat) : Int))), b6, b7, none, none, some (.imm (.list (Z.map fr))), none, none, none, none, none, none, none, none, none, none, none, none, none] = some ((addL X Z).map fr, [b0, some (.imm (.list (X.map fr))), b2, b3, b4, some (.imm (.int ((max X.length Z.length : Nat) : Int))), b6, b7, none, none, some (.imm (.list (Z.map fr))), none, none, none, none, none, none, none, none, none, none, none, none, none]) := by
    unfold addL
    rw [List.map_map]
    refine goLc_ev (by simp) (rng_all2 fun k hk => ?_)
    have a1 : callN Φ (m + 7) 41 [.imm (.list (X.map fr)), .imm (.int (k : Nat))] = _ := r_entry_ok (n := m + 6) (Po.l X) k
    have a2 : callN Φ (m + 7) 41 [.imm (.list (Z.map fr)), .imm (.int (k : Nat))] = _ := r_entry_ok (n := m + 6) (Po.l Z) k
    have p1 := PB.pent hX (by decide) k
    have p2 := PB.pent hZ (by decide) k
    have a3 : callN Φ (m + 7) 34 [.imm (fr (pent X k)), .imm (fr (pent Z k))] = _ := rsum_ok (n := m + 5) (j := 4) (k := 4) (Fr.t) (Fr.t) p1.1.dz p2.1.dz p1.2 p2.2 (by decide) (by decide)
    exact ⟨[b0, some (.imm (.list (X.map fr))), b2, b3, b4, some (.imm (.int ((max X.length Z.length : Nat) : Int))), b6, b7, none, none, some (.imm (.list (Z.map fr))), some (.imm (.int (k : Nat))), none, none, none, none, none, none, none, none, none, none, none, none], .imm (fr (padd (pent X k) (pent Z k))), by simp, by simp -implicitDefEqProofs [a1, a2, a3], rfl, by simp⟩
  have ht : callN Φ (m + 7) 40 [.imm (.list ((addL X Z).map fr))] = _ := r_trimmed_ok (n := m + 6) (Po.l (addL X Z))
  have hr := g_rng1N (cs := callN Φ (m + 7)) (e := .var 5) (n := max X.length Z.length) (ρ1 := [b0, some (.imm (.list (X.map fr))), b2, b3, b4, some (.imm (.int ((max X.length Z.length : Nat) : Int))), b6, b7, none, none, some (.imm (.list (Z.map fr))), none, none, none, none, none, none, none, none, none, none, none, none, none]) (ρ := [b0, some (.imm (.list (X.map fr))), b2, b3, b4, some (.imm (.int ((max X.length Z.length : Nat) : Int))), b6, b7, none, none, some (.imm (.list (Z.map fr))), none, none, none, none, none, none, none, none, none, none, none, none, none]) (by simp) (by omega)
  simp -implicitDefEqProofs [e_lc, hr, hg, backE_non, ht]

theorem polys1 {m K : Nat} {l : List PyData} (h : Spr K l) (hK : K ≤ 1000000) : ∃ (X Y : List Q2) (r : Q2) (d1 d2 : PyData) (l5 : List PyData), (PB 4 X ∧ ptrim X = X ∧ X.length ≤ 8) ∧ (PB 4 Y ∧ ptrim Y = Y ∧ Y.length ≤ 8) ∧ NR r ∧ Bd 4 r ∧ Po d1 X ∧ Po d2 Y ∧ Spr (K + 200) l5 ∧
    evSs (callN Φ (m + 7)) i__law_n_polys1 [some (.own l), none, none, none, none, none, none, none, none, none, none, none, none, none, none, none, none, none, none, none, none, none, none, none] = some (.next, [some (.own l5), some (.imm (.list (X.map fr))), some (.imm (.list (Y.map fr))), some (.imm (fr r)), some (.imm (.list [d1, d2])), some (.imm (.int ((max X.length Y.length : Nat) : Int))), some (.imm (.str (PyData.list [d1, d2]).shown)), some (.imm (.list ((Y.map pneg).map fr))), none, some (.own (duePol X Y)), none, none, none, none, none, none, none, none, none, none, none, none, none, none]) := by
  obtain ⟨X, l1, e1, hX, tX, lX, s1⟩ := n_poly_ok (n := m + 3) h (by omega)
  obtain ⟨Y, l2, e2, hY, tY, lY, s2⟩ := n_poly_ok (n := m + 3) s1 (by omega)
  obtain ⟨r, l3, e3, nr, br, s3⟩ := r_drawn_ok (n := m + 4) (m := 5) (k := 4) s2 (by omega) (by decide) (by decide) (by decide) (by decide)
  obtain ⟨dx1, dx2, dx3⟩ := nd_list X
  obtain ⟨dy1, dy2, dy3⟩ := nd_list Y
  obtain ⟨d1, l4, e4, ls1, s4⟩ := loose_ok 2 (m + 4) _ _ _ s3 dx1 dx3 (by omega)
  obtain ⟨d2, l5, e5, ls2, s5⟩ := loose_ok 2 (m + 4) _ _ _ s4 dy1 dy3 (by omega)
  have p1 := ls1.po
  have p2 := ls2.po
  have e1 : callN Φ (m + 7) 43 [.own l] = _ := e1
  have e2 : callN Φ (m + 7) 43 [.own l1] = _ := e2
  have e3 : callN Φ (m + 7) 38 [.own l2, .imm (.int 5)] = _ := e3
  have e4 : callN Φ (m + 7) 31 [.own l3, .imm (.list (X.map fr))] = _ := e4
  have e5 : callN Φ (m + 7) 31 [.own l4, .imm (.list (Y.map fr))] = _ := e5
  have sh := shows_pos p1 p2 hX hY (by decide) (by decide) lX lY
  refine ⟨X, Y, r, d1, d2, l5, ⟨hX, tX, lX⟩, ⟨hY, tY, lY⟩, nr, br, p1, p2, s5.mono (by omega), ?_⟩
  unfold i__law_n_polys1
  refine (stepN (ρ1 := [some (.own l3), some (.imm (.list (X.map fr))), some (.imm (.list (Y.map fr))), some (.imm (fr r)), none, none, none, none, none, none, none, none, none, none, none, none, none, none, none, none, none, none, none, none]) (by rw [s_unp (ov := .imm (.tuple [.list (X.map fr), .list (Y.map fr), fr r])) (ρ1 := [some (.own l3), none, none, none, none, none, none, none, none, none, none, none, none, none, none, none, none, none, none, none, none, none, none, none]) (by simp -implicitDefEqProofs [e1, e2, e3, ll]) rfl]; rfl)).trans ?_
  refine (stepN (ρ1 := [some (.own l5), some (.imm (.list (X.map fr))), some (.imm (.list (Y.map fr))), some (.imm (fr r)), some (.imm (.list [d1, d2])), some (.imm (.int ((max X.length Y.length : Nat) : Int))), none, none, none, none, none, none, none, none, none, none, none, none, none, none, none, none, none, none]) (by rw [s_unp (ov := .imm (.tuple [.list [d1, d2], .int ((max X.length Y.length : Nat) : Int)])) (ρ1 := [some (.own l5), some (.imm (.list (X.map fr))), some (.imm (.list (Y.map fr))), some (.imm (fr r)), none, none, none, none, none, none, none, none, none, none, none, none, none, none, none, none, none, none, none, none]) (by simp -implicitDefEqProofs [e4, e5, ll, max_cast]) rfl]; rfl)).trans ?_
  have rp : reprV 4 [some (.own l5), some (.imm (.list (X.map fr))), some (.imm (.list (Y.map fr))), some (.imm (fr r)), some (.imm (.list [d1, d2])), some (.imm (.int ((max X.length Y.length : Nat) : Int))), none, none, none, none, none, none, none, none, none, none, none, none, none, none, none, none, none, none] = _ := reprV_imm rfl sh
  have hneg : goLc [8] (evT (callN Φ (m + 7)) .tt) (ev (callN Φ (m + 7)) (.call 37 (.cons (.var 8) (.nil)))) (Y.map fr) [some (.own l5), some (.imm (.list (X.map fr))), some (.imm (.list (Y.map fr))), some (.imm (fr r)), some (.imm (.list [d1, d2])), some (.imm (.int ((max X.length Y.length : Nat) : Int))), none, none, none, none, none, none, none, none, none, none, none, none, none, none, none, none, none, none] = some ((Y.map pneg).map fr, [some (.own l5), some (.imm (.list (X.map fr))), some (.imm (.list (Y.map fr))), some (.imm (fr r)), some (.imm (.list [d1, d2])), some (.imm (.int ((max X.length Y.length : Nat) : Int))), none, none, none, none, none, none, none, none, none, none, none, none, none, none, none, none, none, none]) := by
    rw [List.map_map]
    refine goLc_ev (by simp) (All2.maps fun y hy => ?_)
    have a : callN Φ (m + 7) 37 [.imm (fr y)] = _ := rminus_ok (n := m + 6) (x := y) (.t)
    exact ⟨[some (.own l5), some (.imm (.list (X.map fr))), some (.imm (.list (Y.map fr))), some (.imm (fr r)), some (.imm (.list [d1, d2])), some (.imm (.int ((max X.length Y.length : Nat) : Int))), none, none, some (.imm (fr y)), none, none, none, none, none, none, none, none, none, none, none, none, none, none, none], .imm (fr (pneg y)), by simp, by simp -implicitDefEqProofs [a], rfl, by simp⟩
  refine (stepN (ρ1 := [some (.own l5), some (.imm (.list (X.map fr))), some (.imm (.list (Y.map fr))), some (.imm (fr r)), some (.imm (.list [d1, d2])), some (.imm (.int ((max X.length Y.length : Nat) : Int))), some (.imm (.str (PyData.list [d1, d2]).shown)), some (.imm (.list ((Y.map pneg).map fr))), none, none, none, none, none, none, none, none, none, none, none, none, none, none, none, none]) (by simp -implicitDefEqProofs [rp, e_lc, hneg, backE_non, getE])).trans ?_
  have hYn : PB 4 (Y.map pneg) := fun y hy => by
    obtain ⟨z, hz, rfl⟩ := List.mem_map.mp hy
    exact ⟨NR_pneg (hY z hz).1, Bd_pneg (hY z hz).2⟩
  have sr1 := sumRow (m := m) (Z := Y) (b0 := some (.own l5)) (b2 := some (.imm (.list (Y.map fr)))) (b3 := some (.imm (fr r))) (b4 := some (.imm (.list [d1, d2]))) (b6 := some (.imm (.str (PyData.list [d1, d2]).shown))) (b7 := some (.imm (.list ((Y.map pneg).map fr)))) hX hY lX lY
  have sr2 := sumRow (m := m) (Z := Y.map pneg) (b0 := some (.own l5)) (b2 := some (.imm (.list (Y.map fr)))) (b3 := some (.imm (fr r))) (b4 := some (.imm (.list [d1, d2]))) (b6 := some (.imm (.str (PyData.list [d1, d2]).shown))) (b7 := some (.imm (.list ((Y.map pneg).map fr)))) hX hYn lX (by rw [List.length_map]; exact lY)
  rw [List.length_map] at sr2
  have hdue : goLc [10] (evT (callN Φ (m + 7)) .tt) (ev (callN Φ (m + 7)) (.call 40 (.cons (.lc [11] (.rng1 (.var 5)) (.tt) (.call 34 (.cons (.call 41 (.cons (.var 1) (.cons (.var 11) (.nil)))) (.cons (.call 41 (.cons (.var 10) (.cons (.var 11) (.nil)))) (.nil))))) (.nil)))) [.list (Y.map fr), .list ((Y.map pneg).map fr)] [some (.own l5), some (.imm (.list (X.map fr))), some (.imm (.list (Y.map fr))), some (.imm (fr r)), some (.imm (.list [d1, d2])), some (.imm (.int ((max X.length Y.length : Nat) : Int))), some (.imm (.str (PyData.list [d1, d2]).shown)), some (.imm (.list ((Y.map pneg).map fr))), none, none, none, none, none, none, none, none, none, none, none, none, none, none, none, none] = some ([.list ((ptrim (addL X Y)).map fr), .list ((ptrim (addL X (Y.map pneg))).map fr)], [some (.own l5), some (.imm (.list (X.map fr))), some (.imm (.list (Y.map fr))), some (.imm (fr r)), some (.imm (.list [d1, d2])), some (.imm (.int ((max X.length Y.length : Nat) : Int))), some (.imm (.str (PyData.list [d1, d2]).shown)), some (.imm (.list ((Y.map pneg).map fr))), none, none, none, none, none, none, none, none, none, none, none, none, none, none, none, none]) :=
    goLc_ev (by simp) (.cons ⟨[some (.own l5), some (.imm (.list (X.map fr))), some (.imm (.list (Y.map fr))), some (.imm (fr r)), some (.imm (.list [d1, d2])), some (.imm (.int ((max X.length Y.length : Nat) : Int))), some (.imm (.str (PyData.list [d1, d2]).shown)), some (.imm (.list ((Y.map pneg).map fr))), none, none, some (.imm (.list (Y.map fr))), none, none, none, none, none, none, none, none, none, none, none, none, none], _, by simp, sr1, rfl, by simp⟩ (.cons ⟨[some (.own l5), some (.imm (.list (X.map fr))), some (.imm (.list (Y.map fr))), some (.imm (fr r)), some (.imm (.list [d1, d2])), some (.imm (.int ((max X.length Y.length : Nat) : Int))), some (.imm (.str (PyData.list [d1, d2]).shown)), some (.imm (.list ((Y.map pneg).map fr))), none, none, some (.imm (.list ((Y.map pneg).map fr))), none, none, none, none, none, none, none, none, none, none, none, none, none], _, by simp, sr2, rfl, by simp⟩ .nil))
  refine (stepN (ρ1 := [some (.own l5), some (.imm (.list (X.map fr))), some (.imm (.list (Y.map fr))), some (.imm (fr r)), some (.imm (.list [d1, d2])), some (.imm (.int ((max X.length Y.length : Nat) : Int))), some (.imm (.str (PyData.list [d1, d2]).shown)), some (.imm (.list ((Y.map pneg).map fr))), none, some (.own [.list ((ptrim (addL X Y)).map fr), .list ((ptrim (addL X (Y.map pneg))).map fr)]), none, none, none, none, none, none, none, none, none, none, none, none, none, none]) (by simp -implicitDefEqProofs [e_lc, backE_non, getE, ll, -List.map_map]; rw [hdue]; exact ⟨_, _, rfl, rfl⟩)).trans ?_
  have e42 : callN Φ (m + 7) 42 [.imm (.list (X.map fr)), .imm (.list (Y.map fr)), .imm (.int ((X.length : Int) + (Y.length : Int)))] = some (.own ((mulR X Y (X.length + Y.length)).map fr), []) := by
    have q := r_product_ok (n := m + 4) (Po.l X) (Po.l Y) hX hY (by decide) (by decide) (by omega) (by omega) (many := X.length + Y.length) (by omega)
    rw [Int.natCast_add] at q
    exact q
  have e40a : callN Φ (m + 7) 40 [.imm (.list ((mulR X Y (X.length + Y.length)).map fr))] = some (.own ((ptrim (mulL X Y)).map fr), []) := by
    rw [← mul_trim]
    exact r_trimmed_ok (n := m + 6) (Po.l _)
  have e40b : callN Φ (m + 7) 40 [.imm (.list ((pdL X).map fr).tail)] = some (.own ((ptrim (derL X)).map fr), []) := by
    have q := r_trimmed_ok (n := m + 6) (Po.l (derL X))
    rw [show (derL X).map fr = ((pdL X).map fr).tail by rw [derL, List.map_drop, List.drop_one]] at q
    exact q
  have hder : goLc [11, 8] (evT (callN Φ (m + 7)) .tt) (ev (callN Φ (m + 7)) (.call 35 (.cons (.var 8) (.cons (.tup (.cons (.var 11) (.cons (.lit (.int 1)) (.nil)))) (.nil))))) (enumL 0 (X.map fr)) [some (.own l5), some (.imm (.list (X.map fr))), some (.imm (.list (Y.map fr))), some (.imm (fr r)), some (.imm (.list [d1, d2])), some (.imm (.int ((max X.length Y.length : Nat) : Int))), some (.imm (.str (PyData.list [d1, d2]).shown)), some (.imm (.list ((Y.map pneg).map fr))), none, some (.imm (.list [.list ((ptrim (addL X Y)).map fr), .list ((ptrim (addL X (Y.map pneg))).map fr)])), none, none, none, none, none, none, none, none, none, none, none, none, none, none] = some ((pdL X).map fr, [some (.own l5), some (.imm (.list (X.map fr))), some (.imm (.list (Y.map fr))), some (.imm (fr r)), some (.imm (.list [d1, d2])), some (.imm (.int ((max X.length Y.length : Nat) : Int))), some (.imm (.str (PyData.list [d1, d2]).shown)), some (.imm (.list ((Y.map pneg).map fr))), none, some (.imm (.list [.list ((ptrim (addL X Y)).map fr), .list ((ptrim (addL X (Y.map pneg))).map fr)])), none, none, none, none, none, none, none, none, none, none, none, none, none, none]) := by
    rw [show (pdL X).map fr = (enumQ 0 X).map (fr ∘ fun p => pmul ((p.1 : Nat), 1) p.2) from by rw [pdL, List.map_map]]
    refine goLc_ev (by simp) ((enum_all2 (All2.mapR (fun _ => Fr.t) X)).imp (fun a b hb h => ?_)).mapRt
    obtain ⟨e, rfl, he⟩ := h
    obtain ⟨hm, hl⟩ := enumQ_mem hb
    have q := rtimes_ok (n := m + 5) (d := e) (e := .tuple [.int (b.1 : Nat), .int 1]) (y := ((b.1 : Int), 1)) he (.inl rfl) (hX _ hm).1.dz (by show (1 : Int) ≠ 0; decide) (hX _ hm).2 (idx_bits (by omega)) (by decide) (by decide)
    rw [pmul_comm] at q
    have q : callN Φ (m + 7) 35 [.imm e, .imm (.tuple [.int (b.1 : Nat), .int 1])] = _ := q
    exact ⟨[some (.own l5), some (.imm (.list (X.map fr))), some (.imm (.list (Y.map fr))), some (.imm (fr r)), some (.imm (.list [d1, d2])), some (.imm (.int ((max X.length Y.length : Nat) : Int))), some (.imm (.str (PyData.list [d1, d2]).shown)), some (.imm (.list ((Y.map pneg).map fr))), some (.imm e), some (.imm (.list [.list ((ptrim (addL X Y)).map fr), .list ((ptrim (addL X (Y.map pneg))).map fr)])), none, some (.imm (.int (b.1 : Nat))), none, none, none, none, none, none, none, none, none, none, none, none], .imm (fr (pmul ((b.1 : Nat), 1) b.2)), by simp, by simp -implicitDefEqProofs [q, ll], rfl, by simp⟩
  exact (stepN (ρ1 := [some (.own l5), some (.imm (.list (X.map fr))), some (.imm (.list (Y.map fr))), some (.imm (fr r)), some (.imm (.list [d1, d2])), some (.imm (.int ((max X.length Y.length : Nat) : Int))), some (.imm (.str (PyData.list [d1, d2]).shown)), some (.imm (.list ((Y.map pneg).map fr))), none, some (.own (duePol X Y)), none, none, none, none, none, none, none, none, none, none, none, none, none, none]) (by simp -implicitDefEqProofs [e42, e40a, e40b, e_lc, hder, cut_1, backE_non, getE, ll, duePol, -List.map_map])).trans b_nil
end LW
set_option Elab.async false
set_option linter.all false
set_option maxRecDepth 100000
set_option maxHeartbeats 0
/-! V17: _law_n_polys, the middle part (plain). -/
namespace LW
open PySem PySem.Spec Ev
theorem lay_frs : ∀ X : List Q2, PyData.canLayAll0 (X.map fr) = true
  | [] => rfl
  | x :: X => by
    rw [List.map_cons]
    show (PyData.canLay0 (fr x) && PyData.canLayAll0 (X.map fr)) = true
    rw [lay_frs X]
    rfl
theorem lay_lfrs (X : List Q2) : PyData.canLay0 (.list (X.map fr)) = true := by rw [PyData.canLay0]; exact lay_frs X
theorem lay_due (X Y : List Q2) : PyData.canLay0 (.list (duePol X Y)) = true := by
  unfold duePol
  simp [PyData.canLay0, PyData.canLayAll0, lay_frs]
theorem dep_due (X Y : List Q2) : dep (.list (duePol X Y)) ≤ 4 := by
  have a := fun Z : List Q2 => (nd_list Z).2.2
  obtain ⟨q1, _, _⟩ := seq_dep (d := .list (duePol X Y)) rfl
  rw [q1]
  unfold duePol
  have a1 := a (ptrim (addL X Y)); have a2 := a (ptrim (addL X (Y.map pneg))); have a3 := a (ptrim (mulL X Y)); have a4 := a (ptrim (derL X))
  simp only [depA]
  omega
theorem same_due {m : Nat} (X Y : List Q2) : callN Φ (m + 7) 30 [.imm (.list (duePol X Y)), .imm (.list (duePol X Y))] = some (.imm (.bool true), []) := same_ok 4 (m + 2) _ (lay_due X Y) (dep_due X Y)
theorem prM_of {cs : CS} {ρ : Ev.Env} {Y x1 x2 x3 x4 : List PyData} {ρ1 ρ2 ρ3 ρ4 ρ5 : Ev.Env} {x y z : Int} (h1 : getE ρ 1 = some (.imm (.list Y))) (hl : ρ.length = 24) (e1 : ev cs ie_told0 ρ = some (.own x1, ρ1)) (e2 : ev cs ie_told1 ρ1 = some (.own x2, ρ2)) (e3 : ev cs ie_told2 ρ2 = some (.own x3, ρ3)) (e4 : ev cs ie_told3 ρ3 = some (.own x4, ρ4))
    (hx : x1.length ≤ 1000 ∧ x2.length ≤ 1000 ∧ x3.length ≤ 1000 ∧ x4.length ≤ 1000) (e5 : evSs cs i__law_n_polys2 (setE ρ4 12 (.imm (.list [.list x1, .list x2, .list x3, .list x4]))) = some (.next, ρ5)) (h0 : getE ρ5 0 = some (.own [.int x, .int y, .int z])) (hl5 : ρ5.length = 24) :
    prM cs ρ = some (.next, some (.own [.int x, .int y, .int z]) :: some (.imm (.list Y)) :: List.replicate 22 none) := by
  unfold prM
  rw [h1]
  dsimp only
  rw [if_pos hl, e1]
  simp only [Option.bind_some, e2, e3, e4]
  rw [if_pos hx, e5]
  simp only [Option.bind_some, h0, hl5, if_pos]

theorem worthLoop {m : Nat} {r : Q2} {b0 b1 b2 b4 b5 b6 b7 b9 b10 b11 b12 b13 : Option Ov} (nr : NR r) (br : Bd 4 r) : ∀ (X2 : List Q2) (w h : Q2) (bw bh : Nat) (s15 : Option Ov), PB 4 X2 → NR w → NR h → Bd bw w → Bd bh h → bh + 4 * X2.length ≤ 40 → bw + 50 * X2.length ≤ 500 →
    ∃ h' s', goFor [15] (evSs (callN Φ (m + 7)) (.cons (.par [14, 8] (.cons (.call 34 (.cons (.var 14) (.cons (.call 35 (.cons (.var 15) (.cons (.var 8) (.nil)))) (.nil)))) (.cons (.call 35 (.cons (.var 8) (.cons (.var 3) (.nil)))) (.nil)))) (.nil))) (X2.map fr) [b0, b1, b2, some (.imm (fr r)), b4, b5, b6, b7, some (.imm (fr h)), b9, b10, b11, b12, b13, some (.imm (fr w)), s15, none, none, none, none, none, none, none, none] = some (.next, [b0, b1, b2, some (.imm (fr r)), b4, b5, b6, b7, some (.imm (fr h')), b9, b10, b11, b12, b13, some (.imm (fr (worth r X2 w h))), s', none, none, none, none, none, none, none, none])
  | [], w, h, bw, bh, s15, _, _, _, _, _, _, _ => ⟨h, s15, goFor_nil⟩
  | x :: X2, w, h, bw, bh, s15, hp, nw, nh, hw, hh, c1, c2 => by
    obtain ⟨nx, bx⟩ := hp x List.mem_cons_self
    rw [List.length_cons] at c1 c2
    have q1 : callN Φ (m + 7) 35 [.imm (fr x), .imm (fr h)] = _ := rtimes_ok (n := m + 5) (Fr.t) (Fr.t) nx.dz nh.dz bx hh (by decide) (by omega)
    have q2 : callN Φ (m + 7) 34 [.imm (fr w), .imm (fr (pmul x h))] = _ := rsum_ok (n := m + 5) (Fr.t) (Fr.t) nw.dz (NR_pmul nx.dz nh.dz).dz hw (Bd_pmul nx.dz nh.dz bx hh) (by omega) (by omega)
    have q3 : callN Φ (m + 7) 35 [.imm (fr h), .imm (fr r)] = _ := rtimes_ok (n := m + 5) (Fr.t) (Fr.t) nh.dz nr.dz hh br (by omega) (by decide)
    have bb1 := Bd_padd nw.dz (NR_pmul nx.dz nh.dz).dz hw (Bd_pmul nx.dz nh.dz bx hh)
    have bb2 := Bd_pmul nh.dz nr.dz hh br
    obtain ⟨h', s', e⟩ := worthLoop nr br X2 (padd w (pmul x h)) (pmul h r) _ _ (some (.imm (fr x))) (fun y hy => hp y (List.mem_cons_of_mem _ hy)) (NR_padd nw.dz (NR_pmul nx.dz nh.dz).dz) (NR_pmul nh.dz nr.dz) bb1 bb2 (by omega) (by omega)
    refine ⟨h', s', ?_⟩
    rw [List.map_cons]
    refine (goFor_go (ρ1 := [b0, b1, b2, some (.imm (fr r)), b4, b5, b6, b7, some (.imm (fr h)), b9, b10, b11, b12, b13, some (.imm (fr w)), some (.imm (fr x)), none, none, none, none, none, none, none, none]) (ρ2 := [b0, b1, b2, some (.imm (fr r)), b4, b5, b6, b7, some (.imm (fr (pmul h r))), b9, b10, b11, b12, b13, some (.imm (fr (padd w (pmul x h)))), some (.imm (fr x)), none, none, none, none, none, none, none, none]) ?_ ?_).trans e
    · simp
    · simp -implicitDefEqProofs [q1, q2, q3, ll]

theorem polysM {m K : Nat} {X Y : List Q2} {r : Q2} {d1 d2 : PyData} {l5 : List PyData} (hX : PB 4 X) (tX : ptrim X = X) (lX : X.length ≤ 8) (hY : PB 4 Y) (tY : ptrim Y = Y) (lY : Y.length ≤ 8) (nr : NR r) (br : Bd 4 r) (p1 : Po d1 X) (p2 : Po d2 Y) (s5 : Spr K l5) (hK : K ≤ 2000000) :
    ∃ l6, Spr (K + 1) l6 ∧ prM (callN Φ (m + 7)) [some (.own l5), some (.imm (.list (X.map fr))), some (.imm (.list (Y.map fr))), some (.imm (fr r)), some (.imm (.list [d1, d2])), some (.imm (.int ((max X.length Y.length : Nat) : Int))), some (.imm (.str (PyData.list [d1, d2]).shown)), some (.imm (.list ((Y.map pneg).map fr))), none, some (.own (duePol X Y)), none, none, none, none, none, none, none, none, none, none, none, none, none, none] = some (.next, some (.own l6) :: some (.imm (.list (X.map fr))) :: List.replicate 22 none) := by
  obtain ⟨d3, l6, e6, ls3, s6⟩ := loose_ok 1 (m + 5) _ _ _ s5 (nd_fr r).1 (by rw [(nd_fr r).2.2]; omega) (by rw [(nd_fr r).2.1]; omega)
  have f3 := ls3.fr
  have e6 : callN Φ (m + 7) 31 [.own l5, .imm (fr r)] = _ := e6
  have sh := shows_pos p1 p2 hX hY (by decide) (by decide) lX lY
  have sq := shown_eq (onlyI_po p1) (onlyI_po p2)
  have pX := Po.l X
  have pY := Po.l Y
  have hb : (X.length + 1) * (4 + 4 + 1) + 1 ≤ 4000 := by omega
  have hb2 : X.length * (4 + 4 + 1) + 1 ≤ 2000 := by omega
  have g0 : callN Φ (m + 7) 22 [.imm d1, .imm d2] = _ := poly_sum_ok (n := m + 2) p1 p2 hX hY tX tY (by decide) (by decide) (by decide) (by decide) (by omega) (by omega)
  have g1 : callN Φ (m + 7) 23 [.imm d1, .imm d2] = _ := poly_less_ok (n := m + 2) p1 p2 hX hY tX tY (by decide) (by decide) (by decide) (by decide) (by omega) (by omega)
  have g2 : callN Φ (m + 7) 24 [.imm d1, .imm d2] = _ := poly_times_ok (n := m + 2) p1 p2 hX hY tX tY (by decide) (by decide) hb (by omega) (by omega)
  have g3 : callN Φ (m + 7) 25 [.imm d1] = _ := poly_derived_ok (n := m + 2) p1 hX tX (by decide) (by omega)
  have k0 : callN Φ (m + 7) 22 [.imm (.list (X.map fr)), .imm (.list (Y.map fr))] = _ := poly_sum_ok (n := m + 2) pX pY hX hY tX tY (by decide) (by decide) (by decide) (by decide) (by omega) (by omega)
  have k1 : callN Φ (m + 7) 23 [.imm (.list (X.map fr)), .imm (.list (Y.map fr))] = _ := poly_less_ok (n := m + 2) pX pY hX hY tX tY (by decide) (by decide) (by decide) (by decide) (by omega) (by omega)
  have k2 : callN Φ (m + 7) 24 [.imm (.list (X.map fr)), .imm (.list (Y.map fr))] = _ := poly_times_ok (n := m + 2) pX pY hX hY tX tY (by decide) (by decide) hb (by omega) (by omega)
  have k3 : callN Φ (m + 7) 25 [.imm (.list (X.map fr))] = _ := poly_derived_ok (n := m + 2) pX hX tX (by decide) (by omega)
  have a0 : callN Φ (m + 7) 26 [.imm d1, .imm d3] = _ := poly_at_ok (n := m + 2) p1 f3 hX nr br tX hb2 (by decide) (by omega)
  have a1 : callN Φ (m + 7) 26 [.imm (.list (X.map fr)), .imm (fr r)] = _ := poly_at_ok (n := m + 2) pX (Fr.t) hX nr br tX hb2 (by decide) (by omega)
  rw [subL_eq] at g1 k1
  have sd := same_due (m := m) X Y
  have sw : ∀ a : Q2, callN Φ (m + 7) 30 [.imm (.list [fr a, fr a]), .imm (.list [fr a, fr a])] = some (.imm (.bool true), []) := fun a => same_ok 2 (m + 4) _ rfl (by simp [dep, depA, fr])
  have t0 : ev (callN Φ (m + 7)) ie_told0 [some (.own l5), some (.imm (.list (X.map fr))), some (.imm (.list (Y.map fr))), some (.imm (fr r)), some (.imm (.list [d1, d2])), some (.imm (.int ((max X.length Y.length : Nat) : Int))), some (.imm (.str (PyData.list [d1, d2]).shown)), some (.imm (.list ((Y.map pneg).map fr))), none, some (.own (duePol X Y)), none, none, none, none, none, none, none, none, none, none, none, none, none, none] = some (.own ((ptrim (addL X Y)).map fr), [some (.own l5), some (.imm (.list (X.map fr))), some (.imm (.list (Y.map fr))), some (.imm (fr r)), some (.imm (.list [d1, d2])), some (.imm (.int ((max X.length Y.length : Nat) : Int))), some (.imm (.str (PyData.list [d1, d2]).shown)), some (.imm (.list ((Y.map pneg).map fr))), none, some (.own (duePol X Y)), none, none, none, none, none, none, none, none, none, none, none, none, none, none]) := by simp -implicitDefEqProofs [ie_told0, g0, -List.map_map]
  have t1 : ev (callN Φ (m + 7)) ie_told1 [some (.own l5), some (.imm (.list (X.map fr))), some (.imm (.list (Y.map fr))), some (.imm (fr r)), some (.imm (.list [d1, d2])), some (.imm (.int ((max X.length Y.length : Nat) : Int))), some (.imm (.str (PyData.list [d1, d2]).shown)), some (.imm (.list ((Y.map pneg).map fr))), none, some (.own (duePol X Y)), none, none, none, none, none, none, none, none, none, none, none, none, none, none] = some (.own ((ptrim (addL X (Y.map pneg))).map fr), [some (.own l5), some (.imm (.list (X.map fr))), some (.imm (.list (Y.map fr))), some (.imm (fr r)), some (.imm (.list [d1, d2])), some (.imm (.int ((max X.length Y.length : Nat) : Int))), some (.imm (.str (PyData.list [d1, d2]).shown)), some (.imm (.list ((Y.map pneg).map fr))), none, some (.own (duePol X Y)), none, none, none, none, none, none, none, none, none, none, none, none, none, none]) := by simp -implicitDefEqProofs [ie_told1, g1, -List.map_map]
  have t2 : ev (callN Φ (m + 7)) ie_told2 [some (.own l5), some (.imm (.list (X.map fr))), some (.imm (.list (Y.map fr))), some (.imm (fr r)), some (.imm (.list [d1, d2])), some (.imm (.int ((max X.length Y.length : Nat) : Int))), some (.imm (.str (PyData.list [d1, d2]).shown)), some (.imm (.list ((Y.map pneg).map fr))), none, some (.own (duePol X Y)), none, none, none, none, none, none, none, none, none, none, none, none, none, none] = some (.own ((ptrim (mulL X Y)).map fr), [some (.own l5), some (.imm (.list (X.map fr))), some (.imm (.list (Y.map fr))), some (.imm (fr r)), some (.imm (.list [d1, d2])), some (.imm (.int ((max X.length Y.length : Nat) : Int))), some (.imm (.str (PyData.list [d1, d2]).shown)), some (.imm (.list ((Y.map pneg).map fr))), none, some (.own (duePol X Y)), none, none, none, none, none, none, none, none, none, none, none, none, none, none]) := by simp -implicitDefEqProofs [ie_told2, g2, -List.map_map]
  have t3 : ev (callN Φ (m + 7)) ie_told3 [some (.own l5), some (.imm (.list (X.map fr))), some (.imm (.list (Y.map fr))), some (.imm (fr r)), some (.imm (.list [d1, d2])), some (.imm (.int ((max X.length Y.length : Nat) : Int))), some (.imm (.str (PyData.list [d1, d2]).shown)), some (.imm (.list ((Y.map pneg).map fr))), none, some (.own (duePol X Y)), none, none, none, none, none, none, none, none, none, none, none, none, none, none] = some (.own ((ptrim (derL X)).map fr), [some (.own l5), some (.imm (.list (X.map fr))), some (.imm (.list (Y.map fr))), some (.imm (fr r)), some (.imm (.list [d1, d2])), some (.imm (.int ((max X.length Y.length : Nat) : Int))), some (.imm (.str (PyData.list [d1, d2]).shown)), some (.imm (.list ((Y.map pneg).map fr))), none, some (.own (duePol X Y)), none, none, none, none, none, none, none, none, none, none, none, none, none, none]) := by simp -implicitDefEqProofs [ie_told3, g3, -List.map_map]
  have lens : ((ptrim (addL X Y)).map fr).length ≤ 1000 ∧ ((ptrim (addL X (Y.map pneg))).map fr).length ≤ 1000 ∧ ((ptrim (mulL X Y)).map fr).length ≤ 1000 ∧ ((ptrim (derL X)).map fr).length ≤ 1000 := by
    have c := fun Z : List Q2 => ptrim_len (X := Z)
    have c1 := c (addL X Y); have c2 := c (addL X (Y.map pneg)); have c3 := c (mulL X Y); have c4 := c (derL X)
    have u1 : (addL X Y).length = max X.length Y.length := by unfold addL; simp
    have u2 : (addL X (Y.map pneg)).length = max X.length Y.length := by unfold addL; simp
    have u3 : (mulL X Y).length = X.length + Y.length - 1 := by unfold mulL; simp
    have u4 : (derL X).length ≤ X.length := by unfold derL pdL; simp [enumQ_len]
    simp only [List.length_map]
    omega
  obtain ⟨h', s15, hloop⟩ := worthLoop (m := m) (r := r) (b0 := some (.own l5)) (b1 := some (.imm (.list (X.map fr)))) (b2 := some (.imm (.list (Y.map fr)))) (b4 := some (.imm (.list [d1, d2]))) (b5 := some (.imm (.int ((max X.length Y.length : Nat) : Int)))) (b6 := some (.imm (.str (PyData.list [d1, d2]).shown))) (b7 := some (.imm (.list ((Y.map pneg).map fr)))) (b9 := some (.imm (.list (duePol X Y)))) (b10 := none) (b11 := none) (b12 := some (.imm (.list (duePol X Y)))) (b13 := some (.imm (.list (duePol X Y)))) nr br X (0, 1) (1, 1) 1 1 none hX NR_01 NR_11 (Bd_01 (by decide)) ⟨by decide, by decide⟩ (by omega) (by omega)
  have rpf : reprV 4 [some (.own l6), some (.imm (.list (X.map fr))), some (.imm (.list (Y.map fr))), some (.imm (fr r)), some (.imm (.list [d1, d2])), some (.imm (.int ((max X.length Y.length : Nat) : Int))), some (.imm (.str (PyData.list [d1, d2]).shown)), some (.imm (.list ((Y.map pneg).map fr))), some (.imm (fr h')), some (.imm (.list (duePol X Y))), none, none, some (.imm (.list (duePol X Y))), some (.imm (.list (duePol X Y))), some (.imm (fr (worth r X (0, 1) (1, 1)))), s15, none, none, none, none, none, none, none, none] = _ := reprV_imm rfl sh
  have main : evSs (callN Φ (m + 7)) i__law_n_polys2 [some (.own l5), some (.imm (.list (X.map fr))), some (.imm (.list (Y.map fr))), some (.imm (fr r)), some (.imm (.list [d1, d2])), some (.imm (.int ((max X.length Y.length : Nat) : Int))), some (.imm (.str (PyData.list [d1, d2]).shown)), some (.imm (.list ((Y.map pneg).map fr))), none, some (.own (duePol X Y)), none, none, some (.imm (.list (duePol X Y))), none, none, none, none, none, none, none, none, none, none, none] = some (.next, [some (.own l6), some (.imm (.list (X.map fr))), some (.imm (.list (Y.map fr))), some (.imm (fr r)), some (.imm (.list [d1, d2])), some (.imm (.int ((max X.length Y.length : Nat) : Int))), some (.imm (.str (PyData.list [d1, d2]).shown)), some (.imm (.list ((Y.map pneg).map fr))), some (.imm (fr h')), some (.imm (.list (duePol X Y))), none, none, some (.imm (.list (duePol X Y))), some (.imm (.list (duePol X Y))), some (.imm (fr (worth r X (0, 1) (1, 1)))), s15, none, none, none, none, none, none, none, none]) := by
    unfold i__law_n_polys2
    refine (stepN (ρ1 := [some (.own l5), some (.imm (.list (X.map fr))), some (.imm (.list (Y.map fr))), some (.imm (fr r)), some (.imm (.list [d1, d2])), some (.imm (.int ((max X.length Y.length : Nat) : Int))), some (.imm (.str (PyData.list [d1, d2]).shown)), some (.imm (.list ((Y.map pneg).map fr))), none, some (.own (duePol X Y)), none, none, some (.imm (.list (duePol X Y))), some (.own (duePol X Y)), none, none, none, none, none, none, none, none, none, none]) (by simp -implicitDefEqProofs [k0, k1, k2, k3, ll, duePol, -List.map_map])).trans ?_
    refine (stepN (ρ1 := [some (.own l5), some (.imm (.list (X.map fr))), some (.imm (.list (Y.map fr))), some (.imm (fr r)), some (.imm (.list [d1, d2])), some (.imm (.int ((max X.length Y.length : Nat) : Int))), some (.imm (.str (PyData.list [d1, d2]).shown)), some (.imm (.list ((Y.map pneg).map fr))), none, some (.imm (.list (duePol X Y))), none, none, some (.imm (.list (duePol X Y))), some (.imm (.list (duePol X Y))), none, none, none, none, none, none, none, none, none, none]) (by simp -implicitDefEqProofs [sd, -List.map_map])).trans ?_
    refine (stepN (ρ1 := [some (.own l5), some (.imm (.list (X.map fr))), some (.imm (.list (Y.map fr))), some (.imm (fr r)), some (.imm (.list [d1, d2])), some (.imm (.int ((max X.length Y.length : Nat) : Int))), some (.imm (.str (PyData.list [d1, d2]).shown)), some (.imm (.list ((Y.map pneg).map fr))), some (.imm (fr (1, 1))), some (.imm (.list (duePol X Y))), none, none, some (.imm (.list (duePol X Y))), some (.imm (.list (duePol X Y))), some (.imm (fr (0, 1))), none, none, none, none, none, none, none, none, none]) (by rw [s_unp (ov := .imm (.tuple [fr (0, 1), fr (1, 1)])) (ρ1 := [some (.own l5), some (.imm (.list (X.map fr))), some (.imm (.list (Y.map fr))), some (.imm (fr r)), some (.imm (.list [d1, d2])), some (.imm (.int ((max X.length Y.length : Nat) : Int))), some (.imm (.str (PyData.list [d1, d2]).shown)), some (.imm (.list ((Y.map pneg).map fr))), none, some (.imm (.list (duePol X Y))), none, none, some (.imm (.list (duePol X Y))), some (.imm (.list (duePol X Y))), none, none, none, none, none, none, none, none, none, none]) (by simp -implicitDefEqProofs [ll, fr, -List.map_map]) rfl]; rfl)).trans ?_
    refine (stepN (ρ1 := [some (.own l5), some (.imm (.list (X.map fr))), some (.imm (.list (Y.map fr))), some (.imm (fr r)), some (.imm (.list [d1, d2])), some (.imm (.int ((max X.length Y.length : Nat) : Int))), some (.imm (.str (PyData.list [d1, d2]).shown)), some (.imm (.list ((Y.map pneg).map fr))), some (.imm (fr h')), some (.imm (.list (duePol X Y))), none, none, some (.imm (.list (duePol X Y))), some (.imm (.list (duePol X Y))), some (.imm (fr (worth r X (0, 1) (1, 1)))), s15, none, none, none, none, none, none, none, none]) (by rw [s_loop]; have hg : evG (callN Φ (m + 7)) (.seq (.var 1)) [some (.own l5), some (.imm (.list (X.map fr))), some (.imm (.list (Y.map fr))), some (.imm (fr r)), some (.imm (.list [d1, d2])), some (.imm (.int ((max X.length Y.length : Nat) : Int))), some (.imm (.str (PyData.list [d1, d2]).shown)), some (.imm (.list ((Y.map pneg).map fr))), some (.imm (fr (1, 1))), some (.imm (.list (duePol X Y))), none, none, some (.imm (.list (duePol X Y))), some (.imm (.list (duePol X Y))), some (.imm (fr (0, 1))), none, none, none, none, none, none, none, none, none] = some (X.map fr, [some (.own l5), some (.imm (.list (X.map fr))), some (.imm (.list (Y.map fr))), some (.imm (fr r)), some (.imm (.list [d1, d2])), some (.imm (.int ((max X.length Y.length : Nat) : Int))), some (.imm (.str (PyData.list [d1, d2]).shown)), some (.imm (.list ((Y.map pneg).map fr))), some (.imm (fr (1, 1))), some (.imm (.list (duePol X Y))), none, none, some (.imm (.list (duePol X Y))), some (.imm (.list (duePol X Y))), some (.imm (fr (0, 1))), none, none, none, none, none, none, none, none, none]) := (by simp -implicitDefEqProofs [-List.map_map]); rw [hg]; exact hloop)).trans ?_
    exact (stepN (by rw [worth_horner nr (fun x hx => (hX x hx).1)] at rpf ⊢; simp -implicitDefEqProofs [e6, a0, a1, sw, rpf, sq, ll, -List.map_map])).trans b_nil
  obtain ⟨x, y, z, rfl, hs1, hs2, hs3⟩ := s6
  refine ⟨_, ⟨x, y, z, rfl, hs1, hs2, by rw [(nd_fr r).2.1] at hs3; exact hs3⟩, prM_of rfl rfl t0 t1 t2 t3 lens main rfl rfl⟩
end LW
set_option Elab.async false
set_option linter.all false
set_option maxRecDepth 100000
set_option maxHeartbeats 0
/-! V18: _law_n_polys, the last part (plain). -/
namespace LW
open PySem PySem.Spec Ev
def thingOkP (d : PyData) : Prop := (∀ xs, seqOf d = some xs → ∀ x ∈ xs, ∀ i j, seqOf x = some [.int i, .int j] → j.natAbs < 2 ^ 9000) ∧ (polyD d || veryD d) = true
def bodyP : ISs := .cons (.set 19 (.call 44 (.cons (.var 18) (.nil)))) (.cons (.ite (.not (.val (.call 30 (.cons (.lst (.cons (.call 14 (.cons (.var 18) (.nil))) (.cons (.callk 14 [0] (.cons (.var 18) (.nil))) (.nil)))) (.cons (.lst (.cons (.var 19) (.cons (.var 19) (.nil)))) (.nil)))))) (.cons (.ret (.lit (.bool false))) (.nil)) (.nil)) (.cons (.prim prC) .nil))
abbrev envP (z0 z1 z17 s18 s19 : Option Ov) : Ev.Env := [z0, z1, none, none, none, none, none, none, none, none, none, none, none, none, none, none, none, z17, s18, s19, none, none, none, none]
theorem thingsBodyP {m : Nat} {z0 z1 z17 : Option Ov} {d : PyData} (hd : thingOkP d) (s19 : Option Ov) : evSs (callN Φ (m + 7)) bodyP (envP z0 z1 z17 (some (.imm d)) s19) = some (.next, envP z0 z1 z17 (some (.imm d)) (some (.imm (.bool (polyD d))))) := by
  have e1 : callN Φ (m + 7) 44 [.imm d] = _ := n_is_ok (n := m + 4) hd.1
  have e2 : callN Φ (m + 7) 30 [.imm (.list [.bool (polyD d), .bool (polyD d)]), .imm (.list [.bool (polyD d), .bool (polyD d)])] = some (.imm (.bool true), []) := same_ok 2 (m + 4) _ rfl (by simp [dep, depA])
  have e3 : callN Φ (m + 7) 14 [.imm d] = _ := is_poly_ok (n := m + 4)
  have b : prC (envP z0 z1 z17 (some (.imm d)) (some (.imm (.bool (polyD d))))) = some (.next, envP z0 z1 z17 (some (.imm d)) (some (.imm (.bool (polyD d))))) := by
    show (if (24 == 24 && polyD d == polyD d && (polyD d || veryD d)) = true then _ else none) = _
    rw [hd.2]
    simp
  unfold bodyP
  simp -implicitDefEqProofs [e1, e2, e3, b, ll]
theorem thingsLoopP {m : Nat} {z0 z1 z17 : Option Ov} : ∀ (ds : List PyData), (∀ d ∈ ds, thingOkP d) → ∀ s18 s19, ∃ a b, goFor [18] (evSs (callN Φ (m + 7)) bodyP) ds (envP z0 z1 z17 s18 s19) = some (.next, envP z0 z1 z17 a b)
  | [], _, s18, s19 => ⟨s18, s19, goFor_nil⟩
  | d :: ds, h, s18, s19 => by
    obtain ⟨a, b, e⟩ := thingsLoopP (m := m) (z0 := z0) (z1 := z1) (z17 := z17) ds (fun x hx => h x (List.mem_cons_of_mem _ hx)) (some (.imm d)) (some (.imm (.bool (polyD d))))
    exact ⟨a, b, (goFor_go (ρ1 := envP z0 z1 z17 (some (.imm d)) s19) (by simp) (thingsBodyP (h d List.mem_cons_self) s19)).trans e⟩
theorem rep11 {cs : CS} {ρ : Ev.Env} {k : Nat} (hk : repOk 1 (k : Int) = true) : ev cs (.bin .mul (.lst (.cons (.tup (.cons (.lit (.int 1)) (.cons (.lit (.int 1)) (.nil)))) (.nil))) (.lit (.int (k : Nat)))) ρ = some (.own ((List.replicate k ((1, 1) : Q2)).map fr), ρ) := by
  have e : (List.replicate k [fr (1, 1)]).flatten = (List.replicate k ((1, 1) : Q2)).map fr := by
    rw [List.map_replicate]
    simp
  rw [← e]
  simp -implicitDefEqProofs [hk, ll, fr]
theorem cpy_frs : ∀ X : List Q2, cpyA (X.map fr) = true
  | [] => rfl
  | x :: X => by
    rw [List.map_cons]
    show (cpy (fr x) && cpyA (X.map fr)) = true
    rw [cpy_frs X]
    rfl
theorem cpyA_app : ∀ xs ys : List PyData, cpyA (xs ++ ys) = (cpyA xs && cpyA ys)
  | [], ys => rfl
  | x :: xs, ys => by
    show (cpy x && cpyA (xs ++ ys)) = _
    rw [cpyA_app xs ys]
    show _ = ((cpy x && cpyA xs) && cpyA ys)
    rw [Bool.and_assoc]
theorem depA_app : ∀ xs ys : List PyData, depA (xs ++ ys) = max (depA xs) (depA ys)
  | [], ys => by simp [depA]
  | x :: xs, ys => by
    simp only [List.cons_append, depA]
    rw [depA_app xs ys]
    omega
theorem depA_le {k : Nat} : ∀ {xs : List PyData}, (∀ x ∈ xs, dep x ≤ k) → depA xs ≤ k
  | [], _ => Nat.zero_le _
  | x :: xs, h => by
    have h1 := h x List.mem_cons_self
    have h2 := depA_le fun y hy => h y (List.mem_cons_of_mem _ hy)
    simp only [depA]
    omega
theorem dep_seq {d : PyData} {xs : List PyData} {k : Nat} (hs : seqOf d = some xs) (h : depA xs ≤ k) : dep d ≤ k + 1 := by
  rw [(seq_dep hs).1]
  omega
theorem hbL {Z : List Q2} {ys : List PyData} (h1 : ∀ z ∈ Z, z.2.natAbs < 2 ^ 200) (h2 : ∀ y ∈ ys, ∀ i j, seqOf y = some [.int i, .int j] → j.natAbs < 2 ^ 200) : ∀ x ∈ Z.map fr ++ ys, ∀ i j, seqOf x = some [.int i, .int j] → j.natAbs < 2 ^ 9000 := fun x hx i j e => by
  refine Nat.lt_of_lt_of_le ?_ (Nat.pow_le_pow_right (by decide) (show 200 ≤ 9000 by decide))
  rcases List.mem_append.mp hx with hx | hx
  · obtain ⟨z, hz, rfl⟩ := List.mem_map.mp hx
    cases e
    exact h1 z hz
  · exact h2 x hx i j e
theorem okL {Z : List Q2} {ys : List PyData} (h1 : ∀ z ∈ Z, z.2.natAbs < 2 ^ 200) (h2 : ∀ y ∈ ys, ∀ i j, seqOf y = some [.int i, .int j] → j.natAbs < 2 ^ 200) (hl : Z.length + ys.length ≤ 1000) : thingOkP (.list (Z.map fr ++ ys)) := by
  refine ⟨fun xs e => by cases e; exact hbL h1 h2, ?_⟩
  have : veryD (.list (Z.map fr ++ ys)) = true := by
    show decide ((Z.map fr ++ ys).length ≤ 1000) = true
    rw [List.length_append, List.length_map]
    exact decide_eq_true hl
  rw [this, Bool.or_true]
theorem okN {d : PyData} (h : seqOf d = none) (hv : veryD d = true) : thingOkP d := ⟨fun xs e => (by rw [h] at e; cases e), by rw [hv, Bool.or_true]⟩
theorem lastLoop {cs : CS} {X : List Q2} {z0 z17 s19 : Option Ov} (hp : polyD (.list (X.map fr)) = true) : ∀ (ds : List PyData), (∀ d ∈ ds, ratD d = false ∧ veryD d = true) → ∀ s18, ∃ b, goFor [18] (evSs cs (.cons (.prim prD) .nil)) ds (envP z0 (some (.imm (.list (X.map fr)))) z17 s18 s19) = some (.next, envP z0 (some (.imm (.list (X.map fr)))) z17 b s19)
  | [], _, s18 => ⟨s18, goFor_nil⟩
  | d :: ds, h, s18 => by
    obtain ⟨b, e⟩ := lastLoop (cs := cs) (z0 := z0) (z17 := z17) (s19 := s19) hp ds (fun x hx => h x (List.mem_cons_of_mem _ hx)) (some (.imm d))
    obtain ⟨h1, h2⟩ := h d List.mem_cons_self
    have q : prD (envP z0 (some (.imm (.list (X.map fr)))) z17 (some (.imm d)) s19) = some (.next, envP z0 (some (.imm (.list (X.map fr)))) z17 (some (.imm d)) s19) := by
      show (if (24 == 24 && (listOf (.list (X.map fr))).isSome && polyD (.list (X.map fr)) && !ratD d && veryD d) = true then _ else none) = _
      rw [hp, h1, h2]
      rfl
    exact ⟨b, (goFor_go (ρ1 := envP z0 (some (.imm (.list (X.map fr)))) z17 (some (.imm d)) s19) (by simp) ((stepN (by rw [s_prim]; exact q)).trans b_nil)).trans e⟩
def TP (X A B : List Q2) : List PyData := [.list (X.map fr), .tuple (X.map fr), .list (X.map fr ++ [.tuple [.int 0, .int 1]]), .list (X.map fr ++ [.tuple [.int 2, .int 2]]), .list (X.map fr ++ [.none]), .list (X.map fr ++ [.int 0]), .list [.tuple [.int 0, .int 1]], .list (A.map fr), .list (B.map fr), .none, .int 0, .str "", .str "1", .dict [], .tuple [.int 1, .int 1], .list [.list [.int 1, .int 1]], .list [.tuple [.int 1, .int 0]]]
theorem polys3 {m K : Nat} {X : List Q2} {l6 : List PyData} (hX : PB 4 X) (tX : ptrim X = X) (lX : X.length ≤ 8) : ∃ ρE, evSs (callN Φ (m + 7)) i__law_n_polys3 [some (.own l6), some (.imm (.list (X.map fr))), none, none, none, none, none, none, none, none, none, none, none, none, none, none, none, none, none, none, none, none, none, none] = some (.ret (.imm (.bool true)), some (.own l6) :: ρE) := by
  have bX : ∀ z ∈ X, z.2.natAbs < 2 ^ 200 := fun z hz => Nat.lt_of_lt_of_le (hX z hz).2.2 (Nat.pow_le_pow_right (by decide) (by decide))
  have r100 : ∀ (cs : CS) (ρ : Ev.Env), ev cs (IE.bin BOp.mul (.lst (.cons (.tup (.cons (.lit (.int 1)) (.cons (.lit (.int 1)) (.nil)))) (.nil))) (.lit (.int 100))) ρ = some (.own ((List.replicate 100 ((1, 1) : Q2)).map fr), ρ) := fun cs ρ => rep11 (k := 100) (by decide)
  have r101 : ∀ (cs : CS) (ρ : Ev.Env), ev cs (IE.bin BOp.mul (.lst (.cons (.tup (.cons (.lit (.int 1)) (.cons (.lit (.int 1)) (.nil)))) (.nil))) (.lit (.int 101))) ρ = some (.own ((List.replicate 101 ((1, 1) : Q2)).map fr), ρ) := fun cs ρ => rep11 (k := 101) (by decide)
  have bA : ∀ z ∈ List.replicate 100 ((1, 1) : Q2), z.2.natAbs < 2 ^ 200 := fun z hz => by rw [List.eq_of_mem_replicate hz]; decide
  have bB : ∀ z ∈ List.replicate 101 ((1, 1) : Q2), z.2.natAbs < 2 ^ 200 := fun z hz => by rw [List.eq_of_mem_replicate hz]; decide
  have lA : (List.replicate 100 ((1, 1) : Q2)).length ≤ 200 := by rw [List.length_replicate]; decide
  have lB : (List.replicate 101 ((1, 1) : Q2)).length ≤ 200 := by rw [List.length_replicate]; decide
  unfold i__law_n_polys3
  generalize (IE.bin BOp.mul (.lst (.cons (.tup (.cons (.lit (.int 1)) (.cons (.lit (.int 1)) (.nil)))) (.nil))) (.lit (.int 100))) = IA at r100 ⊢
  generalize (IE.bin BOp.mul (.lst (.cons (.tup (.cons (.lit (.int 1)) (.cons (.lit (.int 1)) (.nil)))) (.nil))) (.lit (.int 101))) = IB at r101 ⊢
  generalize List.replicate 100 ((1, 1) : Q2) = A at r100 bA lA
  generalize List.replicate 101 ((1, 1) : Q2) = B at r101 bB lB
  have hc : cpy (.list (TP X A B)) = true := by simp [TP, cpy, cpyA, cpyA_app, cpy_frs]
  have dA := fun Z : List Q2 => (nd_frs Z).2.2
  have hd : dep (.list (TP X A B)) ≤ 5 := by
    have d1 := dA X; have d2 := dA A; have d3 := dA B
    refine dep_seq rfl (depA_le fun x hx => ?_)
    unfold TP at hx
    simp only [List.mem_cons, List.not_mem_nil, or_false] at hx
    rcases hx with rfl | rfl | rfl | rfl | rfl | rfl | rfl | rfl | rfl | rfl | rfl | rfl | rfl | rfl | rfl | rfl | rfl
    all_goals first | (exact Nat.le_trans (dep_seq rfl d1) (by decide)) | (exact Nat.le_trans (dep_seq rfl d2) (by decide)) | (exact Nat.le_trans (dep_seq rfl d3) (by decide)) | (refine Nat.le_trans (dep_seq rfl (k := 2) ?_) (by decide); rw [depA_app]; simp [depA, dep]; omega) | (simp [dep, depA])
  have hcc := copy_ok 5 (m + 1) (.list (TP X A B)) hc hd
  rw [show m + 1 + 5 + 1 = m + 7 from by omega] at hcc
  obtain ⟨oc, hc1, hc2⟩ := hcc
  have nop : ∀ y ∈ ([] : List PyData), ∀ i j, seqOf y = some [.int i, .int j] → j.natAbs < 2 ^ 200 := fun y hy => by cases hy
  have ok : ∀ d ∈ (TP X A B), thingOkP d := by
    intro d hd
    unfold TP at hd
    simp only [List.mem_cons, List.not_mem_nil, or_false] at hd
    rcases hd with rfl | rfl | rfl | rfl | rfl | rfl | rfl | rfl | rfl | rfl | rfl | rfl | rfl | rfl | rfl | rfl | rfl
    · have q := okL bX nop (by simp; omega)
      rwa [List.append_nil] at q
    · refine ⟨fun xs e => by cases e; have q := hbL bX nop; rwa [List.append_nil] at q, ?_⟩
      rw [Po.polyD (Po.t X) (fun x hx => (hX x hx).1) tX (by omega)]
      rfl
    · exact okL bX (fun y hy i j e => by rw [List.mem_singleton.mp hy] at e; cases e; decide) (by simp; omega)
    · exact okL bX (fun y hy i j e => by rw [List.mem_singleton.mp hy] at e; cases e; decide) (by simp; omega)
    · exact okL bX (fun y hy i j e => by rw [List.mem_singleton.mp hy] at e; cases e) (by simp; omega)
    · exact okL bX (fun y hy i j e => by rw [List.mem_singleton.mp hy] at e; cases e) (by simp; omega)
    · exact okL (Z := []) (fun z hz => by cases hz) (fun y hy i j e => by rw [List.mem_singleton.mp hy] at e; cases e; decide) (by simp)
    · have q := okL bA nop (by simp; omega)
      rwa [List.append_nil] at q
    · have q := okL bB nop (by simp; omega)
      rwa [List.append_nil] at q
    · exact okN rfl rfl
    · exact okN rfl rfl
    · exact okN rfl (by decide +kernel)
    · exact okN rfl (by decide +kernel)
    · exact okN rfl rfl
    · refine ⟨fun xs e x hx i j h => ?_, rfl⟩
      cases e
      simp only [List.mem_cons, List.not_mem_nil, or_false] at hx
      rcases hx with rfl | rfl <;> cases h
    · exact okL (Z := []) (fun z hz => by cases hz) (fun y hy i j e => by rw [List.mem_singleton.mp hy] at e; cases e; decide) (by simp)
    · exact okL (Z := []) (fun z hz => by cases hz) (fun y hy i j e => by rw [List.mem_singleton.mp hy] at e; cases e; decide) (by simp)
  obtain ⟨s18, s19, hloop⟩ := thingsLoopP (m := m) (z0 := some (.own l6)) (z1 := some (.imm (.list (X.map fr)))) (z17 := some (.imm (.list (TP X A B)))) _ ok none none
  obtain ⟨s18b, hlast⟩ := lastLoop (cs := callN Φ (m + 7)) (X := X) (z0 := some (.own l6)) (z17 := some (.imm (.list (TP X A B)))) (s19 := s19) (Po.polyD (Po.l X) (fun x hx => (hX x hx).1) tX (by omega)) [.none, .int 0, .tuple [.int 2, .int 4], .str "1"] (by
    intro d hd
    simp only [List.mem_cons, List.not_mem_nil, or_false] at hd
    rcases hd with rfl | rfl | rfl | rfl <;> exact ⟨by decide +kernel, by decide +kernel⟩) s18
  refine ⟨([some (.own l6), some (.imm (.list (X.map fr))), none, none, none, none, none, none, none, none, none, none, none, none, none, none, none, some (.imm (.list (TP X A B))), s18b, s19, none, none, none, none]).tail, (stepN (ρ1 := [some (.own l6), some (.imm (.list (X.map fr))), none, none, none, none, none, none, none, none, none, none, none, none, none, none, none, some (.own (TP X A B)), none, none, none, none, none, none]) (by simp -implicitDefEqProofs [TP, r100, r101, dct0, ll, show X.length + 1 ≤ 16777216 from by omega, -List.map_map])).trans ?_⟩
  refine (stepN (ρ1 := [some (.own l6), some (.imm (.list (X.map fr))), none, none, none, none, none, none, none, none, none, none, none, none, none, none, none, some (.imm (.list (TP X A B))), s18, s19, none, none, none, none]) (by
    rw [s_loop]
    have hg : evG (callN Φ (m + 7)) (.seq (.call 32 (.cons (.var 17) (.nil)))) [some (.own l6), some (.imm (.list (X.map fr))), none, none, none, none, none, none, none, none, none, none, none, none, none, none, none, some (.own (TP X A B)), none, none, none, none, none, none] = some ((TP X A B), [some (.own l6), some (.imm (.list (X.map fr))), none, none, none, none, none, none, none, none, none, none, none, none, none, none, none, some (.imm (.list (TP X A B))), none, none, none, none, none, none]) := by
      simp -implicitDefEqProofs [hc1, hc2, -List.map_map]
    rw [hg]
    exact hloop)).trans ?_
  refine (stepN (ρ1 := [some (.own l6), some (.imm (.list (X.map fr))), none, none, none, none, none, none, none, none, none, none, none, none, none, none, none, some (.imm (.list (TP X A B))), s18b, s19, none, none, none, none]) (by
    rw [s_loop]
    have hg : evG (callN Φ (m + 7)) (.seq (.lst (.cons (.lit .none) (.cons (.lit (.int 0)) (.cons (.tup (.cons (.lit (.int 2)) (.cons (.lit (.int 4)) (.nil)))) (.cons (.lit (.str "1")) (.nil))))))) [some (.own l6), some (.imm (.list (X.map fr))), none, none, none, none, none, none, none, none, none, none, none, none, none, none, none, some (.imm (.list (TP X A B))), s18, s19, none, none, none, none] = some ([.none, .int 0, .tuple [.int 2, .int 4], .str "1"], [some (.own l6), some (.imm (.list (X.map fr))), none, none, none, none, none, none, none, none, none, none, none, none, none, none, none, some (.imm (.list (TP X A B))), s18, s19, none, none, none, none]) := by
      simp -implicitDefEqProofs [ll, -List.map_map]
    rw [hg]
    exact hlast)).trans ?_
  exact stepR (by simp -implicitDefEqProofs [-List.map_map])
end LW
set_option Elab.async false
set_option linter.all false
set_option maxRecDepth 100000
set_option maxHeartbeats 0
/-! V19: _law_n_polys tells True (plain). -/
namespace LW
open PySem PySem.Spec Ev
theorem polys_plain {m K : Nat} {l : List PyData} (h : Spr K l) (hK : K ≤ 1000000) : ∃ l', runD (callN Φ (m + 7)) (d_n_polys (callN Φ (m + 7))) [.own l] = some (.imm (.bool true), [l']) ∧ Spr (K + 201) l' := by
  obtain ⟨X, Y, r, d1, d2, l5, ⟨hX, tX, lX⟩, ⟨hY, tY, lY⟩, nr, br, p1, p2, s5, q1⟩ := polys1 (m := m) h hK
  obtain ⟨l6, s6, q2⟩ := polysM (m := m) hX tX lX hY tY lY nr br p1 p2 s5 (by omega)
  obtain ⟨ρE, q3⟩ := polys3 (m := m) (K := K) (l6 := l6) hX tX lX
  refine ⟨l6, ?_, s6⟩
  have main : evSs (callN Φ (m + 7)) (i_n_polys (callN Φ (m + 7))) [some (.own l), none, none, none, none, none, none, none, none, none, none, none, none, none, none, none, none, none, none, none, none, none, none, none] = some (.ret (.imm (.bool true)), some (.own l6) :: ρE) := by
    unfold i_n_polys
    rw [evSs_app, q1]
    show evSs _ _ _ = _
    rw [evSs_app]
    have e : evSs (callN Φ (m + 7)) (.cons (.prim (prM (callN Φ (m + 7)))) .nil) [some (.own l5), some (.imm (.list (X.map fr))), some (.imm (.list (Y.map fr))), some (.imm (fr r)), some (.imm (.list [d1, d2])), some (.imm (.int ((max X.length Y.length : Nat) : Int))), some (.imm (.str (PyData.list [d1, d2]).shown)), some (.imm (.list ((Y.map pneg).map fr))), none, some (.own (duePol X Y)), none, none, none, none, none, none, none, none, none, none, none, none, none, none] = some (.next, some (.own l6) :: some (.imm (.list (X.map fr))) :: List.replicate 22 none) :=
      (stepN (by rw [s_prim]; exact q2)).trans b_nil
    rw [e]
    exact q3
  unfold runD
  rw [if_pos ⟨rfl, rfl⟩]
  have main' : evSs (callN Φ (m + 7)) (d_n_polys (callN Φ (m + 7))).body (start0 (d_n_polys (callN Φ (m + 7))) [.own l]) = some (.ret (.imm (.bool true)), some (.own l6) :: ρE) := main
  rw [main']
  rfl
end LW
set_option Elab.async false
set_option linter.all false
set_option maxRecDepth 100000
set_option maxHeartbeats 0
/-! V20: _law_spring, by hand. -/
namespace LW
open PySem PySem.Spec PyProof.Rows L2 RT RZ Ev
abbrev sSpring : Stmt := top 38
def sprN : List Str := ["script", "turn", "cell", "mix", "at", "one"]
theorem sc_spring : FnScope sprN ["script", "turn"] (defScope sSpring) := ⟨rfl, rfl, rfl, by decide +kernel, rfl, by decide +kernel, by decide +kernel⟩
theorem ifDT {p q : Prop} {d : Bool} (hd : d = true) (h : p) : if d = true then p else q := by subst hd; exact h
theorem ifDF {p q : Prop} {d : Bool} (hd : d = false) (h : q) : if d = true then p else q := by subst hd; exact h
/-- a new spring -/
def spSpring (K : Frag) : Sp := fun vs H Q _ => ∃ (a : Addr) (ns : List Int) (t : Nat), vs = [.ref a, .int (t : Nat)] ∧ SqL K H a (ns.map V.int) ∧ ∀ (x y : Int) (H' : Hp) (p : Addr), 0 ≤ y → y < 2147483648 → Same H H' → H' p = none → Q (.ref p) (upd H' p (.lst [.int x, .int y, .int 0]))
section
variable {P : Program} {w : World} {K : Frag} {mg : Str → Option Value} {base : Heap} {a : Nat → Addr} {fd : Nat → FuncData} {n : Nat} {g : Addr} {fdv : FuncData}
theorem spring_ok (T : Txt K mg a fd) (D : FunD K "_law_spring" "_law_spring" (defArgs sSpring) (defBody sSpring) (defScope sSpring) [] [] g fdv) : FnOk P w K mg base CX0 (n + 1) g fdv ["script", "turn"] (spSpring K) := by
  refine D.ok sc_spring (fun vs H Q E h => ?_) (fun cdv A outer s H vs Q E hr h => ?_)
  · obtain ⟨_, _, _, rfl, _⟩ := h
    rfl
  · obtain ⟨b, ns, t, rfl, hs, hq⟩ := h
    refine ⟨_, pss_cons (ps_par (i := 2) (j := 3) rfl sc_spring.nd rfl rfl (by decide) rfl rfl
        (pa_cons (pe_ifExp (pt_cmpR op_lt (pv 1) (pe_callB call_len rfl T.f_len PySem.boot_len (pa_cons (pv 0) pa_nil) (by decide) (by decide)) (nomark _)) (pe_ix ix_seq (pv 0) (pv 1) (by intro _ _; rfl))
          (pe_op op_add (pe_op op_mul pe_int (pv 1)) (pe_callB call_len rfl T.f_len PySem.boot_len (pa_cons (pv 0) pa_nil) (by decide) (by decide))))
        (pa_cons (pe_op op_add pe_int (pe_op op_mul pe_int (pv 1))) pa_nil)) rfl)
      (pss_cons (ps_for (passes_of rfl) rfl (pi_enum rfl T.f_enumerate (pa_cons (pe_slice sl_list (pv 0) po_none (po_some pe_int)) pa_nil)) (pg_tup (n := 2) rfl (pgs_cons (pg_name (i := 4) sc_spring.nd rfl (Or.inl rfl)) (pgs_cons (pg_name (i := 5) sc_spring.nd rfl (Or.inl rfl)) pgs_nil)))
        (pss_one (ps_set (i := 3) sc_spring.nd rfl (Or.inl rfl) (pe_op op_mod (pe_callTy (x := "int") call_int1 rfl T.f_int PyProof.Rows.boot_int (pa_cons (pe_op op_add (pe_op op_add (pe_op op_add (pe_op op_mul (pv 3) pe_int) (pv 5)) (pe_op op_mul pe_int (pv 4))) pe_int) pa_nil) (by decide) (by decide)) pe_int))))
      (pss_cons (ps_ret (pe_lst (pa_cons (pe_ifExp (pt_cmpR op_ge (pv 2) (pe_op op_pow pe_int pe_int) (nomark _)) (pv 2) pe_int) (pa_cons (pe_op op_mod (pe_callTy (x := "int") call_int1 rfl T.f_int PyProof.Rows.boot_int (pa_cons (pe_op op_add (pv 3) (pe_op op_mul (pv 2) pe_int)) pa_nil) (by decide) (by decide)) pe_int) (pa_cons pe_int pa_nil))))) pss_nil)), ?_⟩
    have l0 : LenV K (.ref b) H (ns.map V.int).length := .inl ⟨_, hs, rfl⟩
    have sm : ∀ i j : Int, -(2 ^ 64) < j ∧ j < 2 ^ 64 → CMul i j := fun i j h => .inr h
    -- what comes behind the first statement
    have rest : ∀ c mx : Int, tSeq (tFor (iEnum K (tCons (tSl (rSlL K) (tVar 0) tNoPart (tPart (tC (.int 63)))) tNil)) (gTup K 2 (gCons (gName 4) (gCons (gName 5) gNil))) (tAsg (tOp (rI (fun _ j => 0 < j) fun i j => .int (i % j)) (tCB (fun xs H Q => (∃ i, xs = [.int i] ∧ Q (.int i) H) ∨ ∃ k, xs = [.bl k] ∧ Q (.int (if k then 1 else 0)) H) (tCons (tOp (rI0 fun i j => .int (i + j)) (tOp (rI0 fun i j => .int (i + j)) (tOp (rI0 fun i j => .int (i + j)) (tOp (rI CMul fun i j => .int (i * j)) (tVar 3) (tC (.int 69069))) (tVar 5)) (tOp (rI CMul fun i j => .int (i * j)) (tC (.int 5)) (tVar 4))) (tC (.int 1))) tNil)) (tC (.int 2147483629))) (gName 3)))
        (tSeq (tRet (tLst (tCons (tIf (tTest (tOp (rI0 fun i j => .bl (decide (j ≤ i))) (tVar 2) (tOp (rI CPow fun i j => .int (i ^ j.toNat)) (tC (.int 10)) (tC (.int 18))))) (tVar 2) (tC (.int 0))) (tCons (tOp (rI (fun _ j => 0 < j) fun i j => .int (i % j)) (tCB (fun xs H Q => (∃ i, xs = [.int i] ∧ Q (.int i) H) ∨ ∃ k, xs = [.bl k] ∧ Q (.int (if k then 1 else 0)) H) (tCons (tOp (rI0 fun i j => .int (i + j)) (tVar 3) (tOp (rI CMul fun i j => .int (i * j)) (tVar 2) (tC (.int 31)))) tNil)) (tC (.int 2147483647))) (tCons (tC (.int 0)) tNil))))) tNext) { nx := fun _ H' => Q .non H', rt := Q } [some (.ref b), some (.int (t : Nat)), some (.int c), some (.int mx), none, none] H := by
      intro c mx
      refine ⟨.ref b, rfl, 63, rfl, b, _, rfl, hs, fun p hp => ⟨p, _, rfl, SqL.of upd_same, fun i m σ' H' => m + i = (cutV (ns.map V.int) none (some 63)).length ∧ Same (upd H p (.lst (cutV (ns.map V.int) none (some 63)))) H' ∧ σ'[0]? = some (some (.ref b)) ∧ σ'[2]? = some (some (.int c)) ∧ (∃ k, σ'[3]? = some (some (.int k))) ∧ σ'.length = 6, ⟨_, rfl, .refl _, rfl, rfl, ⟨mx, rfl⟩, rfl⟩, fun i m σ' H' ⟨hm, hS, h0, h2, ⟨k, h3⟩, hl⟩ => ?_⟩⟩
      have mem : ∀ x ∈ cutV (ns.map V.int) none (some 63), ∃ z, x = V.int z := fun x hx => by
        unfold cutV at hx
        obtain ⟨z, _, e⟩ := List.mem_map.mp (List.mem_of_mem_drop (List.mem_of_mem_take hx))
        exact ⟨z, e.symm⟩
      have sp : SqL K H' p (cutV (ns.map V.int) none (some 63)) := SqL.of (hS _ _ upd_same)
      generalize cutV (ns.map V.int) none (some 63) = xs at hm hS mem sp ⊢
      by_cases hlt : i < xs.length
      · refine .inr ⟨⟨xs, xs[i], sp, by simp [hlt]⟩, fun σ2 H2 => m - 1 + (i + 1) = xs.length ∧ Same (upd H p (.lst xs)) H2 ∧ σ2[0]? = some (some (.ref b)) ∧ σ2[2]? = some (some (.int c)) ∧ (∃ k, σ2[3]? = some (some (.int k))) ∧ σ2.length = 6, fun σ2 H2 h => ⟨m - 1, by omega, h⟩, fun v H2 hy => ?_⟩
        obtain ⟨T0, xv, rfl, hT, rfl, hx⟩ := hy
        have hx := hx _ sp
        obtain ⟨z, rfl⟩ := mem xv (List.mem_of_getElem? hx)
        refine ⟨T0, [.int (i : Nat), .int z], rfl, SqT.of upd_same, rfl, _, _, rfl, _, _, rfl, rfl, ?_⟩
        have w3 : ((σ'.set 4 (some (V.int (i : Nat)))).set 5 (some (V.int z)))[3]? = some (some (.int k)) := by rw [List.getElem?_set_ne (by decide), List.getElem?_set_ne (by decide)]; exact h3
        have w5 : ((σ'.set 4 (some (V.int (i : Nat)))).set 5 (some (V.int z)))[5]? = some (some (.int z)) := by rw [List.getElem?_set_self (by rw [List.length_set]; omega)]
        have w4 : ((σ'.set 4 (some (V.int (i : Nat)))).set 5 (some (V.int z)))[4]? = some (some (.int (i : Nat))) := by rw [List.getElem?_set_ne (by decide), List.getElem?_set_self (by omega)]
        refine ⟨.int k, w3, k, 69069, rfl, rfl, sm _ _ (by decide), .int z, w5, _, z, rfl, rfl, .int (i : Nat), w4, 5, (i : Nat), rfl, rfl, .inl (by decide), _, _, rfl, rfl, _, 1, rfl, rfl, .inl ⟨_, rfl, _, 2147483629, rfl, rfl, (show (0 : Int) < 2147483629 by decide), ?_⟩⟩
        refine ⟨by omega, hS.trans (same_upd hT), ?_, ?_, ⟨_, List.getElem?_set_self (by rw [List.length_set, List.length_set]; omega)⟩, by simp [hl]⟩
        · rw [List.getElem?_set_ne (by decide), List.getElem?_set_ne (by decide), List.getElem?_set_ne (by decide)]; exact h0
        · rw [List.getElem?_set_ne (by decide), List.getElem?_set_ne (by decide), List.getElem?_set_ne (by decide)]; exact h2
      · refine .inl ⟨⟨xs, sp, by omega⟩, ?_⟩
        have sH : Same H H' := (same_upd hp).trans hS
        have key : ∀ x : Int, (tCons (tOp (rI (fun _ j => 0 < j) fun i j => .int (i % j)) (tCB (fun xs H Q => (∃ i, xs = [.int i] ∧ Q (.int i) H) ∨ ∃ k, xs = [.bl k] ∧ Q (.int (if k then 1 else 0)) H) (tCons (tOp (rI0 fun i j => .int (i + j)) (tVar 3) (tOp (rI CMul fun i j => .int (i * j)) (tVar 2) (tC (.int 31)))) tNil)) (tC (.int 2147483647))) (tCons (tC (.int 0)) tNil)) σ' H' fun ys H1 => (V.int x :: ys).length ≤ sizeLine ∧ ∀ q, H1 q = none → Q (.ref q) (upd H1 q (.lst (V.int x :: ys))) := fun x =>
          ⟨.int k, h3, .int c, h2, c, 31, rfl, rfl, sm _ _ (by decide), k, _, rfl, rfl, .inl ⟨_, rfl, _, 2147483647, rfl, rfl, (show (0 : Int) < 2147483647 by decide), by rw [sizeLine_eq]; exact (by decide : 3 ≤ 16777216), fun q hq' => hq x _ H' q (Int.emod_nonneg _ (by decide)) (Int.lt_of_lt_of_le (Int.emod_lt_of_pos _ (by decide)) (by decide)) sH hq'⟩⟩
        refine ⟨.int c, h2, 10, 18, rfl, rfl, ⟨by decide, by decide, by decide⟩, c, _, rfl, rfl, _, rfl, ?_⟩
        by_cases hb : (10 : Int) ^ (18 : Int).toNat ≤ c
        · exact ifDT (decide_eq_true hb) ⟨.int c, h2, key c⟩
        · exact ifDF (decide_eq_false hb) (key 0)
    by_cases ht : t < ns.length
    · refine ⟨.int (t : Nat), rfl, .ref b, rfl, .ref b, _, rfl, l0, (t : Nat), _, rfl, rfl, _, rfl, ?_⟩
      exact ifDT (decide_eq_true (by rw [List.length_map]; omega)) ⟨.ref b, rfl, .int (t : Nat), rfl, .inl ⟨b, _, (t : Nat), .int ns[t], rfl, rfl, hs, atI_nat (by simp [ht]), .int (t : Nat), rfl, 97, (t : Nat), rfl, rfl, .inl (by decide), 1009, _, rfl, rfl, _, _, rfl, rest _ _⟩⟩
    · refine ⟨.int (t : Nat), rfl, .ref b, rfl, .ref b, _, rfl, l0, (t : Nat), _, rfl, rfl, _, rfl, ?_⟩
      exact ifDF (decide_eq_false (by rw [List.length_map]; omega)) ⟨.int (t : Nat), rfl, 7, (t : Nat), rfl, rfl, .inl (by decide), .ref b, rfl, .ref b, _, rfl, l0, _, _, rfl, rfl, .int (t : Nat), rfl, 97, (t : Nat), rfl, rfl, .inl (by decide), 1009, _, rfl, rfl, _, _, rfl, rest _ _⟩
end
end LW
set_option Elab.async false
set_option linter.all false
set_option maxRecDepth 100000
set_option maxHeartbeats 0
/-! printed by gen01b.py: what the law tells at its end -/
namespace LW
open PySem PySem.Spec PyProof.Rows L2 RT RZ Ev LamX
abbrev sLaw : Stmt := top 62
def retOf : Stmt → Expr
  | .Return (some e) _ => e
  | _ => dftE
def lawE : Expr := retOf ((defBody sLaw).getD 1 dftS)
def n_law : List Str := ["script", "turn", "spring"]
theorem sc_law : FnScope n_law ["script"] (defScope sLaw) := ⟨rfl, rfl, rfl, by decide +kernel, rfl, by decide +kernel, by decide +kernel⟩
def ie_law : IE := .bt (.and (.bv (.call 30 (.cons (.lst (.cons (.call 10 (.cons (.tup (.cons (.lit (.int 1)) (.cons (.lit (.int 2)) (.nil)))) (.cons (.tup (.cons (.lit (.int 1)) (.cons (.lit (.int 3)) (.nil)))) (.nil)))) (.cons (.call 13 (.cons (.tup (.cons (.lit (.int 1)) (.cons (.lit (.int 2)) (.nil)))) (.cons (.tup (.cons (.neg (.lit (.int 3))) (.cons (.lit (.int 4)) (.nil)))) (.nil)))) (.nil)))) (.cons (.lst (.cons (.tup (.cons (.lit (.int 5)) (.cons (.lit (.int 6)) (.nil)))) (.cons (.tup (.cons (.neg (.lit (.int 2))) (.cons (.lit (.int 3)) (.nil)))) (.nil)))) (.nil))))) (.cmp .eq (.call 24 (.cons (.lst (.cons (.tup (.cons (.lit (.int 1)) (.cons (.lit (.int 1)) (.nil)))) (.cons (.tup (.cons (.lit (.int 1)) (.cons (.lit (.int 1)) (.nil)))) (.nil)))) (.cons (.lst (.cons (.tup (.cons (.lit (.int 1)) (.cons (.lit (.int 1)) (.nil)))) (.cons (.tup (.cons (.neg (.lit (.int 1))) (.cons (.lit (.int 1)) (.nil)))) (.nil)))) (.nil)))) (.lst (.cons (.tup (.cons (.lit (.int 1)) (.cons (.lit (.int 1)) (.nil)))) (.cons (.tup (.cons (.lit (.int 0)) (.cons (.lit (.int 1)) (.nil)))) (.cons (.tup (.cons (.neg (.lit (.int 1))) (.cons (.lit (.int 1)) (.nil)))) (.nil)))))))
section
variable {P : Program} {w : World} {K : Frag} {mg : Str → Option Value} {base : Heap} {a : Nat → Addr} {fd : Nat → FuncData} {n : Nat} {f : Addr} {cdv : Value} {A : Around} {outer : List PySem.Env} {s : Shared} {H : Hp} {E : XK} {Ap : List (Nat × Addr)} {G : Hp}
theorem se_law (g : Good P w K mg base a fd n) (T : Txt K mg a fd) (hr : Room n (A.deeper (envOfC "law" (defScope sLaw) s.heap.objs.size f cdv))) : SE (cxOf CX0 P w K mg base n_law "law" (defScope sLaw) f cdv A outer s H E) Ap G (callN Φ n) lawE ie_law := by
  exact (se_bt (sb_and (sb_bv (se_call g.g__law_same hr rfl T.m__law_same T.d__law_same.kp T.b__law_same pass0 (sa_cons (se_lst (sa_cons (se_call g.g_ratio_sum hr rfl T.m_ratio_sum T.d_ratio_sum.kp T.b_ratio_sum pass0 (sa_cons (se_tup (sa_cons se_int (sa_cons se_int sa_nil))) (sa_cons (se_tup (sa_cons se_int (sa_cons se_int sa_nil))) sa_nil))) (sa_cons (se_call g.g_ratio_over hr rfl T.m_ratio_over T.d_ratio_over.kp T.b_ratio_over pass0 (sa_cons (se_tup (sa_cons se_int (sa_cons se_int sa_nil))) (sa_cons (se_tup (sa_cons (se_neg se_int) (sa_cons se_int sa_nil))) sa_nil))) sa_nil))) (sa_cons (se_lst (sa_cons (se_tup (sa_cons se_int (sa_cons se_int sa_nil))) (sa_cons (se_tup (sa_cons (se_neg se_int) (sa_cons se_int sa_nil))) sa_nil))) sa_nil)))) (sb_one (sb_cmp (cm_eq hr.units) (se_call g.g_poly_times hr rfl T.m_poly_times T.d_poly_times.kp T.b_poly_times pass0 (sa_cons (se_lst (sa_cons (se_tup (sa_cons se_int (sa_cons se_int sa_nil))) (sa_cons (se_tup (sa_cons se_int (sa_cons se_int sa_nil))) sa_nil))) (sa_cons (se_lst (sa_cons (se_tup (sa_cons se_int (sa_cons se_int sa_nil))) (sa_cons (se_tup (sa_cons (se_neg se_int) (sa_cons se_int sa_nil))) sa_nil))) sa_nil))) (se_lst (sa_cons (se_tup (sa_cons se_int (sa_cons se_int sa_nil))) (sa_cons (se_tup (sa_cons se_int (sa_cons se_int sa_nil))) (sa_cons (se_tup (sa_cons (se_neg se_int) (sa_cons se_int sa_nil))) sa_nil)))) (nomark _)))))
end
end LW
set_option Elab.async false
set_option linter.all false
set_option maxRecDepth 100000
set_option maxHeartbeats 0
/-! V22: the law. -/
namespace LW
open PySem PySem.Spec PyProof.Rows L2 RT RZ Ev LamX LamD SupX
def spLaw (K : Frag) (Tb : List (Addr × Str)) : Sp := fun vs H Q _ => ∃ (b : Addr) (ns : List Int), vs = [.ref b] ∧ SqL K H b (ns.map V.int) ∧ Tabs Tb H ∧ ∀ H', Q (.bl true) H'
theorem sq_keep {K : Frag} {H H' : Hp} {b : Addr} {xs : List V} (h : SqL K H b xs) (e : ∀ x, H b = some x → (∀ ps, x ≠ .tbl ps) → H' b = some x) : SqL K H' b xs := by
  rcases h with (h | ⟨o, h⟩) | h
  · exact .inl (.inl (e _ h fun _ z => by cases z))
  · exact .inl (.inr ⟨o, e _ h fun _ z => by cases z⟩)
  · exact .inr h
theorem law_end {m : Nat} : ev (callN Φ (m + 8)) ie_law [none, none, none] = some (.imm (.bool true), [none, none, none]) := by
  have b1 : Bd 4 ((1, 2) : Q2) := ⟨by decide, by decide⟩
  have b2 : Bd 4 ((1, 3) : Q2) := ⟨by decide, by decide⟩
  have b3 : Bd 4 ((-3, 4) : Q2) := ⟨by decide, by decide⟩
  have n1 : NR ((1, 2) : Q2) := ⟨by decide, by decide⟩
  have n3 : NR ((-3, 4) : Q2) := ⟨by decide, by decide⟩
  have n2 : NR ((1, 3) : Q2) := ⟨by decide, by decide⟩
  have e1 : callN Φ (m + 8) 10 [.imm (.tuple [.int 1, .int 2]), .imm (.tuple [.int 1, .int 3])] = some (.imm (.tuple [.int 5, .int 6]), []) := ratio_sum_ok (n := m + 4) (x := (1, 2)) (y := (1, 3)) (j := 4) (k := 4) (.inl rfl) (.inl rfl) n1 n2 b1 b2 (by decide) (by decide)
  have e2 : callN Φ (m + 8) 13 [.imm (.tuple [.int 1, .int 2]), .imm (.tuple [.int (-3), .int 4])] = some (.imm (.tuple [.int (-2), .int 3]), []) := ratio_over_ok (n := m + 4) (x := (1, 2)) (y := (-3, 4)) (j := 4) (k := 4) (.inl rfl) (.inl rfl) n1 n3 (by decide) b1 b3 (by decide) (by decide)
  have e3 : callN Φ (m + 8) 30 [.imm (.list [.tuple [.int 5, .int 6], .tuple [.int (-2), .int 3]]), .imm (.list [.tuple [.int 5, .int 6], .tuple [.int (-2), .int 3]])] = some (.imm (.bool true), []) := same_ok 2 (m + 5) _ rfl (by simp [dep, depA])
  have hX : PB 4 ([(1, 1), (1, 1)] : List Q2) := fun x hx => by
    simp only [List.mem_cons, List.not_mem_nil, or_false] at hx
    rcases hx with rfl | rfl <;> exact ⟨⟨by decide, by decide⟩, by decide, by decide⟩
  have hY : PB 4 ([(1, 1), (-1, 1)] : List Q2) := fun x hx => by
    simp only [List.mem_cons, List.not_mem_nil, or_false] at hx
    rcases hx with rfl | rfl <;> exact ⟨⟨by decide, by decide⟩, by decide, by decide⟩
  have e4 := poly_times_ok (n := m + 3) (Po.l [(1, 1), (1, 1)]) (Po.l [(1, 1), (-1, 1)]) hX hY (by decide +kernel) (by decide +kernel) (by decide) (by decide) (by decide) (by decide) (by decide)
  rw [show ptrim (mulL [(1, 1), (1, 1)] [(1, 1), (-1, 1)]) = [(1, 1), (0, 1), (-1, 1)] from by decide +kernel] at e4
  have e4 : callN Φ (m + 8) 24 [.imm (.list [.tuple [.int 1, .int 1], .tuple [.int 1, .int 1]]), .imm (.list [.tuple [.int 1, .int 1], .tuple [.int (-1), .int 1]])] = some (.own [.tuple [.int 1, .int 1], .tuple [.int 0, .int 1], .tuple [.int (-1), .int 1]], []) := e4
  have e5 : eqD (.list [.tuple [.int 1, .int 1], .tuple [.int 0, .int 1], .tuple [.int (-1), .int 1]]) (.list [.tuple [.int 1, .int 1], .tuple [.int 0, .int 1], .tuple [.int (-1), .int 1]]) = some true := by decide +kernel
  unfold ie_law
  simp -implicitDefEqProofs [e1, e2, e3, e4, e5, ll]
section
variable {P : Program} {w : World} {K : Frag} {mg : Str → Option Value} {base : Heap} {a : Nat → Addr} {fd : Nat → FuncData} {m : Nat} {Cr Cn Cp gm fr fp fl fs : Addr} {fdm fdr fdp fdl fds : FuncData} {Tb : List (Addr × Str)}
theorem law_ok (h : Hnd P w K mg base a fd Cr Cn Cp gm fdm) (hsp : FunD K "_law_spring" "_law_spring" (defArgs sSpring) (defBody sSpring) (defScope sSpring) [] [] fs fds) (msp : mg "_law_spring" = some (.ref fs))
    (hR : FnOkG P w K mg base CX0 (m + 7) fr fdr p__law_n_ratios (spB2 K Tb (runD (callN Φ (m + 6)) d_n_ratios) 1)) (FR : FunD K "_law_n_ratios" "_law_n_ratios" (defArgs sRat) (defBody sRat) (defScope sRat) [] [] fr fdr) (mR : mg "_law_n_ratios" = some (.ref fr))
    (hP : FnOkG P w K mg base CX0 (m + 8) fp fdp p__law_n_polys (spB2 K Tb (runD (callN Φ (m + 7)) (d_n_polys (callN Φ (m + 7)))) 1)) (FP : FunD K "_law_n_polys" "_law_n_polys" (defArgs sPol) (defBody sPol) (defScope sPol) [] [] fp fdp) (mP : mg "_law_n_polys" = some (.ref fp))
    (FL : FunD K "law" "law" (defArgs sLaw) (defBody sLaw) (defScope sLaw) [] [] fl fdl) : FnOkG P w K mg base CX0 (m + 9) fl fdl ["script"] (spLaw K Tb) := by
  have bR : L2.Binds K fdr p__law_n_ratios [] := FR.bindsN fun _ _ _ _ _ _ us hl => match us, hl with | [_], _ => rfl
  have bP : L2.Binds K fdp p__law_n_polys [] := FP.bindsN fun _ _ _ _ _ _ us hl => match us, hl with | [_], _ => rfl
  have bS : L2.Binds K fds ["script", "turn"] [] := hsp.bindsN fun _ _ _ _ _ _ us hl => match us, hl with | [_, _], _ => rfl
  have T := h.txt
  refine fn_okG FL sc_law (fun vs H Q E h => ?_) (fun cdv A outer s H vs Q E hr hgd hcd hh => ?_)
  · obtain ⟨_, _, rfl, _⟩ := h
    rfl
  · obtain ⟨b, ns, rfl, hs, hT, hq⟩ := hh
    refine ⟨_, pss_cons (ps_for (passes_of rfl) rfl (pi_range1 rfl T.f_range (pa_cons pe_int pa_nil)) (pg_name (i := 1) sc_law.nd rfl (Or.inl rfl))
        (pss_cons (ps_set (i := 2) sc_law.nd rfl (Or.inl rfl) (pe_call (x := "_law_spring") (spring_ok (n := m + 7) T hsp) hr rfl msp hsp.kp bS .nil pass0 (pa_cons (pv 0) (pa_cons (pv 1) pa_nil))))
        (pss_cons (ps_if (PW.pt (pw_or (pt_not (pt_val (pe_callG (x := "_law_n_ratios") hR hgd (hr.mono (by omega)) rfl mR FR.kp bR .nil pass0 (pa_cons (pv 2) pa_nil)))) (pw_or1 (pt_not (pt_val (pe_callG (x := "_law_n_polys") hP hgd hr rfl mP FP.kp bP .nil pass0 (pa_cons (pv 2) pa_nil))))))) pss_never pss_nil) pss_nil)))
      (pss_cons (ps_ret (pe_evAny (A := []) fun G => se_law (h.good (m + 8)) T hr)) pss_nil), ?_⟩
    refine ⟨6, rfl, by decide, by decide, fun i m' σ' H' => m' + i = 6 ∧ σ'[0]? = some (some (.ref b)) ∧ σ'.length = 3 ∧ SqL K H' b (ns.map V.int) ∧ Tabs Tb H', ⟨6, rfl, rfl, rfl, hs, hT⟩, fun i m' σ' H' ⟨hm, h0, hl, hs', hT'⟩ => ?_⟩
    by_cases hlt : i < 6
    · refine .inr ⟨hlt, fun σ2 H2 => m' - 1 + (i + 1) = 6 ∧ σ2[0]? = some (some (.ref b)) ∧ σ2.length = 3 ∧ SqL K H2 b (ns.map V.int) ∧ Tabs Tb H2, fun σ2 H2 q => ⟨m' - 1, by omega, q⟩, fun x H2 hy => ?_⟩
      obtain ⟨rfl, rfl⟩ := hy
      have g0 : (σ'.set 1 (some (V.int (0 + (i : Nat)))))[0]? = some (some (.ref b)) := by rw [List.getElem?_set_ne (by decide)]; exact h0
      refine ⟨.ref b, g0, .int (0 + (i : Nat)), by rw [List.getElem?_set_self (by omega)], b, ns, i, by rw [Int.zero_add]; rfl, hs', fun x y H3 p y0 y1 sm hp => ?_⟩
      -- the spring at p
      have g2 : ((σ'.set 1 (some (V.int (0 + (i : Nat))))).set 2 (some (V.ref p)))[2]? = some (some (.ref p)) := by rw [List.getElem?_set_self (by rw [List.length_set]; omega)]
      have T3 : Tabs Tb (upd H3 p (.lst [.int x, .int y, .int 0])) := (hT'.ext sm).ext (same_upd hp)
      have hSp : Spr 0 [PyData.int x, .int y, .int 0] := ⟨x, y, 0, rfl, y0, y1, Nat.le_refl _⟩
      obtain ⟨l1, r1, s1⟩ := ratios_plain (m := m) hSp (by decide)
      have ints3 : ∀ (F : Hp) (x y z : Int), DnA K F [.int x, .int y, .int z] [.int x, .int y, .int z] := fun F x y z => .cons (.int x) (.cons (.int y) (.cons (.int z) .nil))
      refine ⟨.ref p, g2, fun _ => none, [.own [.int x, .int y, .int 0]], true, [l1], T3, fun _ _ z => (by cases z), .own rfl upd_same (ints3 _ x y 0) .nil, List.nodup_cons.mpr ⟨List.not_mem_nil, List.nodup_nil⟩, rfl, r1, fun H4 F4 fr4 T4 sF4 o4 => ?_⟩
      refine ⟨true, rfl, ?_⟩
      obtain ⟨x1, y1', z1, rfl, a1, a2, a3⟩ := s1
      cases o4 with
      | cons q1 q2 q3 q4 =>
      cases q3 with
      | cons d1 q3 =>
      cases q3 with
      | cons d2 q3 =>
      cases q3 with
      | cons d3 q3 =>
      cases q3; cases d1; cases d2; cases d3
      have hSp1 : Spr 20 [PyData.int x1, .int y1', .int (z1 : Nat)] := ⟨x1, y1', z1, rfl, a1, a2, by omega⟩
      obtain ⟨l2, r2, s2⟩ := polys_plain (m := m) hSp1 (by decide)
      refine ifF ⟨.ref p, g2, fun _ => none, [.own [.int x1, .int y1', .int (z1 : Nat)]], true, [l2], T4, fun _ _ z => (by cases z), .own rfl q2 (ints3 _ x1 y1' _) .nil, List.nodup_cons.mpr ⟨List.not_mem_nil, List.nodup_nil⟩, rfl, r2, fun H5 F5 fr5 T5 sF5 o5 => ?_⟩
      refine ⟨true, rfl, ?_⟩
      refine ifF ⟨by omega, ?_, by simp [hl], ?_, T5⟩
      · rw [List.getElem?_set_ne (by decide)]; exact g0
      · have hs3 : SqL K H3 b (ns.map V.int) := sq_keep hs' fun x hx _ => sm _ _ hx
        refine sq_keep hs3 fun xx hx nx => ?_
        have nb : b ≠ p := fun z => by rw [z, hp] at hx; cases hx
        have nb' : b ∉ [p] := fun z => nb (List.mem_singleton.mp z)
        exact fr5 _ _ (fr4 _ _ (by rw [upd_ne nb]; exact hx) nb' nx) nb' nx
    · refine .inl ⟨by show 6 ≤ i; omega, ?_⟩
      refine ⟨fun _ => none, fun _ => none, [none, none, none], _, _, ⟨fun _ _ z => (by cases z), fun _ _ z => (by cases z), fun i d z => ?_, fun i d z => ?_, fun i j xs ys a z => ?_, fun p hp => (by cases hp), hl.symm⟩, law_end, fun v H6 ⟨F6, _, _, d6⟩ => ?_⟩
      · match i with
        | 0 | 1 | 2 => cases z
        | i + 3 => cases z
      · match i with
        | 0 | 1 | 2 => cases z
        | i + 3 => cases z
      · match i with
        | 0 | 1 | 2 => cases z
        | i + 3 => cases z
      · cases d6
        exact hq _
end
end LW
set_option Elab.async false
set_option linter.all false
set_option maxRecDepth 100000
set_option maxHeartbeats 2000000
/-! V23: what the head tells of classes whose __init__ calls super's; a hook for it. -/
namespace HeY
open PySem PySem.Spec PyProof.Rows L2 He SupX
def clsB (K : PySem.W.Frag) (C : Addr) : Bool := match K.lookup C with
  | some ⟨.type t, _, .cls cd, sl⟩ => (match cd.mro, sl.toList with
    | .ref C' :: bm, [_, _, _, _, some (.builtin n), _] => decide (t = "type") && (decide (C' = C) && (decide (n = "ValueError.__new__") && (!cd.hasDel && (cd.hasDict && PySem.HandSPX.refsVE bm))))
    | _, _ => false)
  | _ => false
theorem clsB_ok {K : PySem.W.Frag} {C : Addr} (h : clsB K C = true) : ∃ nm q N bs bm sn sub ab col dd k0 k1 k2 k3 k5, K.lookup C = some (excClassObj nm q C N bs bm true sn sub ab col dd k0 k1 k2 k3 k5 "ValueError.__new__") ∧ PySem.HandSPX.refsVE bm = true := by
  unfold clsB at h
  split at h
  · rename_i t dd cd sl ho
    split at h
    · rename_i C' bm k0 k1 k2 k3 n k5 hm hs
      simp only [Bool.and_eq_true, decide_eq_true_eq, Bool.not_eq_true'] at h
      obtain ⟨rfl, rfl, rfl, hdel, hdct, hr⟩ := h
      obtain ⟨nm, bs, mro, ns, qn, hd, sn, sub, ab, col, del⟩ := cd
      dsimp only at hm hdel hdct
      subst hm hdel hdct
      have e : sl = #[k0, k1, k2, k3, some (.builtin "ValueError.__new__"), k5] := by
        obtain ⟨l⟩ := sl
        simp only at hs
        rw [hs]
      subst e
      exact ⟨nm, qn, ns, bs, bm, sn, sub, ab, col, dd, k0, k1, k2, k3, k5, ho, hr⟩
    · cases h
  · cases h
abbrev FnI : Type := Option (Str × Str × Arguments × FuncBody × Scope × Addr × Addr)
def initAt (K : PySem.W.Frag) (cn : Str) : Addr := ma K (ga K cn) "__init__"
def fnI (K : PySem.W.Frag) (cn : Str) : FnI := match K.lookup (initAt K cn) with
  | some ⟨_, _, .func fd, _⟩ => some (fd.name, fd.qualname, fd.params, fd.body, fd.scope, fd.globals, fd.builtins)
  | _ => none
def fnB (P : Program) (K : PySem.W.Frag) (cn qual : Str) : Bool := match K.lookup (initAt K cn) with
  | some ⟨_, _, .func fd, _⟩ => decide (fd.defaults = .none) && (decide (fd.kwdefaults = .none) && (PySem.W.codeIn K fd.code qual && ((match fd.closure with
      | [(x, cc)] => decide (x = ("__class__" : Str)) && (match K.lookup cc with
        | some ⟨_, _, .cell (some v), _⟩ => decide (v = .ref (ga K cn))
        | _ => false)
      | _ => false) && (match fd.code with
      | .ref cda => (match K.lookup cda with
        | some ⟨_, _, .fields vs, _⟩ => (match (vs[2]? : Option Value) with
          | some (.str file _) => (P.main.file : Str) == file
          | _ => false)
        | _ => false)
      | _ => false))))
  | _ => false
def supB (P : Program) (K : PySem.W.Frag) (cn qual f : Str) : Bool := clsB K (ga K cn) && (fnB P K cn qual && (decide (PySem.W.findIn K (.ref (ga K cn)) "__setattr__" = some (some (.builtin "object.__setattr__"))) && (decide (PySem.W.findIn K (.ref (ga K cn)) f = some none) && (decide (PySem.W.ks_superIn K (ga K cn) (ga K cn) "__init__" = some (some (.builtin "ValueError.__init__"))) &&
  (decide (PySem.W.subIn K (.ref (ga K cn)) (.ref (ga K cn)) = some true) && (decide (PySem.W.subIn K (.ref (ga K cn)) (.type "ValueError") = some true) && (decide (PySem.W.nsIn K cStatics "thirdparty.any" = some none) && (decide (PySem.W.nsIn K mainGlobals "super" = some none) &&
  (decide (PySem.W.findIn K (.ref (ga K cn)) "__init__" = some (some (.ref (initAt K cn)))) && (decide (PySem.W.typeIn K (.ref (initAt K cn)) = some (.type "function")) && (PySem.W.keepIn K (.ref (ga K cn)) && (decide (PySem.W.subIn K (.ref (ga K cn)) (.type "BaseException") = some true) && decide (PySem.W.typeIn K (.ref (ga K cn)) = some (.type "type"))))))))))))))
theorem supCls_of {P : Program} {K : PySem.W.Frag} {mg : Str → Option Value} {cn qual f : Str} {params : Arguments} {body : List Stmt} (hb : supB P K cn qual f = true) (hi : fnI K cn = some (("__init__" : Str), qual, params, .stmts body, iS f, mainGlobals, builtinsNs)) (hs : SupS params (iS f) f) (hg : mg cn = some (.ref (ga K cn))) (ht : (P.main.scope.names.lookup ("super" : Str)).isSome = false) :
    ∃ fI cda cc, SupCls P K mg cn (ga K cn) fI cda cc qual params body f := by
  unfold supB at hb
  simp only [Bool.and_eq_true, decide_eq_true_eq] at hb
  obtain ⟨h1, h2, h3, h4, h5, h6, h7, h8, h9, h10, h11, h12, h13, h14⟩ := hb
  unfold fnB at h2
  unfold fnI at hi
  split at h2
  · rename_i oc od fd osl ho
    rw [ho] at hi
    obtain ⟨n1, n2, n3, n4, n5, n6, n7, n8, n9, n10, n11, n12, n13, n14, n15⟩ := fd
    dsimp only at hi h2
    simp only [Option.some.injEq, Prod.mk.injEq] at hi
    obtain ⟨rfl, rfl, rfl, rfl, rfl, rfl, rfl⟩ := hi
    simp only [Bool.and_eq_true, decide_eq_true_eq] at h2
    obtain ⟨rfl, rfl, hcd, hcl, hco⟩ := h2
    split at hcl
    · rename_i x cc
      simp only [Bool.and_eq_true, decide_eq_true_eq] at hcl
      obtain ⟨rfl, hcell⟩ := hcl
      split at hcell
      · rename_i c1 c2 v c4 hcc
        have hv := of_decide_eq_true hcell
        subst hv
        split at hco
        · rename_i cda
          split at hco
          · rename_i d1 d2 vs d4 hcda
            split at hco
            · rename_i file tf hvs
              exact ⟨initAt K cn, cda, cc, ⟨clsB_ok h1, h3, h4, h5, h6, h7, h8, ⟨oc, od, n10, n11, n12, n14, osl, ho⟩, ⟨d1, d2, vs, d4, file, tf, hcda, hvs, hco⟩, hcd, ⟨c1, c2, c4, hcc⟩, h9, ht⟩, hs, h10, h11, h12, h13, h14, hg⟩
            · cases hco
          · cases hco
        · cases hco
      · cases hcell
    · cases hcl
  · cases h2
end HeY
set_option Elab.async false
set_option linter.all false
set_option maxRecDepth 100000
set_option maxHeartbeats 2000000
/-! V24: a hook that tells facts, tables and such __init__s. -/
namespace HeY
open PySem PySem.Spec PyProof.Rows L2 He
def frY (g : Addr → Option Obj) (n : Nat) : PySem.W.Frag := frT g (asD g n ++ [cStatics])
abbrev AlY : Type := AlD × Bool × List FnI
def obsY (n : Nat) (fa : List Fa) (fn : List DefD) (tf : List Defn) (ex : PySem.W.Frag → Bool) (ini : List (Str × FnI)) (g : Addr → Option Obj) : AlY := (obsD fa fn (frY g n), ex (frY g n) && tabsB g tf (frY g n), ini.map fun p => fnI (frY g n) p.1)
def valY (fn : List DefD) (ini : List (Str × FnI)) : AlY := (valD fn, true, ini.map fun p => p.2)
structure SaysY (fa : List Fa) (fn : List DefD) (tf : List Defn) (ex : PySem.W.Frag → Bool) (ini : List (Str × FnI)) (h : Heap) (K : PySem.W.Frag) : Prop where
  d : SaysD fa fn K
  more : ex K = true
  tab : ∀ p ∈ tf, PySem.W.codeHdIn K (cT K p).1 (cT K p).2 = true ∧ K.lookup (cT K p).2 = none ∧ h.get? (cT K p).2 = some { cls := .none, data := .fields #[] }
  ini : ∀ p ∈ ini, fnI K p.1 = p.2
theorem saysY_of {n : Nat} {fa : List Fa} {fn : List DefD} {tf : List Defn} {ex : PySem.W.Frag → Bool} {ini : List (Str × FnI)} {h : Heap} (e : obsY n fa fn tf ex ini h.get? = valY fn ini) : SaysY fa fn tf ex ini h (frY h.get? n) := by
  obtain ⟨e1, e2⟩ := Prod.mk.inj e
  obtain ⟨e2, e3⟩ := Prod.mk.inj e2
  obtain ⟨h1, h2⟩ := ba e2
  refine ⟨e1, h1, fun p hp => ?_, fun p hp => List.map_inj_left.mp e3 p hp⟩
  obtain ⟨h3, h4⟩ := ba (List.all_eq_true.mp h2 p hp)
  cases q : h.get? (cT (frY h.get? n) p).2 with
  | none => rw [q] at h4; cases h4
  | some o =>
    rw [q] at h4
    exact ⟨h3, frT_none q h4, congrArg some (emptyTab_eq h4)⟩
def hookY (n : Nat) (fa : List Fa) (fn : List DefD) (tf : List Defn) (ex : PySem.W.Frag → Bool) (ini : List (Str × FnI)) : PySem.W.Hook where
  α := AlY
  obs := fun s => obsY n fa fn tf ex ini s.heap.get?
  val := fun _ => valY fn ini
  says := fun _ h => ∃ K : PySem.W.Frag, K.In h ∧ SaysY fa fn tf ex ini h K
  of := fun _ _ e => ⟨_, frT_in, saysY_of e⟩
  keeps := fun _ _ _ ⟨K, hK, c⟩ k => ⟨K, PySem.W.Frag.In.keeps hK k, ⟨c.d, c.more, fun p hp => ⟨(c.tab p hp).1, (c.tab p hp).2.1, k _ _ (c.tab p hp).2.2⟩, c.ini⟩⟩
theorem obsY_eq {n : Nat} {fa : List Fa} {fn : List DefD} {tf : List Defn} {ex : PySem.W.Frag → Bool} {ini : List (Str × FnI)} {g : Addr → Option Obj} {s : Shared} (h : ∀ a, g a = s.heap.get? a) : obsY n fa fn tf ex ini g = (hookY n fa fn tf ex ini).obs s := by
  have e : g = s.heap.get? := funext h
  rw [e]
  rfl
/-- the function at f -/
def fdOf (K : PySem.W.Frag) (f : Addr) : FuncData := match K.lookup f with
  | some ⟨_, _, .func fd, _⟩ => fd
  | _ => default
theorem funD_at {K : PySem.W.Frag} {x q : Str} {p : Arguments} {b : List Stmt} {sc : Scope} {dvs : List V} {kws : List (Str × V)} {f : Addr} (h : ∃ fd, FunD K x q p b sc dvs kws f fd) : FunD K x q p b sc dvs kws f (fdOf K f) := by
  obtain ⟨fd, F⟩ := h
  have e : fdOf K f = fd := by
    obtain ⟨oc, od, dV, kV, doc, pm, an, cdv, ct, osl, _, lk, _⟩ := F.ex
    unfold fdOf
    rw [lk]
  rw [e]
  exact F
end HeY
set_option Elab.async false
set_option linter.all false
set_option maxRecDepth 100000
set_option maxHeartbeats 0
/-! printed by genHead01.py: k01's head: what it tells, its run -/
namespace LW
open PySem PySem.Spec PyProof.Rows L2 He HeY
def fnY : List DefD := ([⟨("is_integer", none), "is_integer", "is_integer", defArgs (top 1), defBody (top 1), defScope (top 1), [], []⟩, ⟨("is_list", none), "is_list", "is_list", defArgs (top 2), defBody (top 2), defScope (top 2), [], []⟩, ⟨("common", none), "common", "common", defArgs (top 10), defBody (top 10), defScope (top 10), [], []⟩, ⟨("lowest", none), "lowest", "lowest", defArgs (top 11), defBody (top 11), defScope (top 11), [], []⟩, ⟨("is_ratio", none), "is_ratio", "is_ratio", defArgs (top 12), defBody (top 12), defScope (top 12), [], []⟩, ⟨("plus", none), "plus", "plus", defArgs (top 13), defBody (top 13), defScope (top 13), [], []⟩, ⟨("minus", none), "minus", "minus", defArgs (top 14), defBody (top 14), defScope (top 14), [], []⟩, ⟨("multiplied", none), "multiplied", "multiplied", defArgs (top 15), defBody (top 15), defScope (top 15), [], []⟩, ⟨("divided", none), "divided", "divided", defArgs (top 16), defBody (top 16), defScope (top 16), [], []⟩, ⟨("check_ratios", none), "check_ratios", "check_ratios", defArgs (top 17), defBody (top 17), defScope (top 17), [], []⟩, ⟨("ratio_sum", none), "ratio_sum", "ratio_sum", defArgs (top 18), defBody (top 18), defScope (top 18), [], []⟩, ⟨("ratio_less", none), "ratio_less", "ratio_less", defArgs (top 19), defBody (top 19), defScope (top 19), [], []⟩, ⟨("ratio_times", none), "ratio_times", "ratio_times", defArgs (top 20), defBody (top 20), defScope (top 20), [], []⟩, ⟨("ratio_over", none), "ratio_over", "ratio_over", defArgs (top 21), defBody (top 21), defScope (top 21), [], []⟩, ⟨("is_poly", none), "is_poly", "is_poly", defArgs (top 24), defBody (top 24), defScope (top 24), [], []⟩, ⟨("trimmed", none), "trimmed", "trimmed", defArgs (top 25), defBody (top 25), defScope (top 25), [], []⟩, ⟨("entry", none), "entry", "entry", defArgs (top 26), defBody (top 26), defScope (top 26), [], []⟩, ⟨("poly_plus", none), "poly_plus", "poly_plus", defArgs (top 27), defBody (top 27), defScope (top 27), [], []⟩, ⟨("poly_minus", none), "poly_minus", "poly_minus", defArgs (top 28), defBody (top 28), defScope (top 28), [], []⟩, ⟨("poly_product", none), "poly_product", "poly_product", defArgs (top 29), defBody (top 29), defScope (top 29), [], []⟩] : List DefD) ++ ([⟨("derived", none), "derived", "derived", defArgs (top 30), defBody (top 30), defScope (top 30), [], []⟩, ⟨("check_polys", none), "check_polys", "check_polys", defArgs (top 31), defBody (top 31), defScope (top 31), [], []⟩, ⟨("poly_sum", none), "poly_sum", "poly_sum", defArgs (top 32), defBody (top 32), defScope (top 32), [], []⟩, ⟨("poly_less", none), "poly_less", "poly_less", defArgs (top 33), defBody (top 33), defScope (top 33), [], []⟩, ⟨("poly_times", none), "poly_times", "poly_times", defArgs (top 34), defBody (top 34), defScope (top 34), [], []⟩, ⟨("poly_derived", none), "poly_derived", "poly_derived", defArgs (top 35), defBody (top 35), defScope (top 35), [], []⟩, ⟨("poly_at", none), "poly_at", "poly_at", defArgs (top 36), defBody (top 36), defScope (top 36), [], []⟩, ⟨("_law_draw", none), "_law_draw", "_law_draw", defArgs (top 39), defBody (top 39), defScope (top 39), [], []⟩, ⟨("_law_pick", none), "_law_pick", "_law_pick", defArgs (top 40), defBody (top 40), defScope (top 40), [], []⟩, ⟨("_law_mixed", none), "_law_mixed", "_law_mixed", defArgs (top 41), defBody (top 41), defScope (top 41), [], []⟩, ⟨("_law_same", none), "_law_same", "_law_same", defArgs (top 43), defBody (top 43), defScope (top 43), [], []⟩, ⟨("_law_loose", none), "_law_loose", "_law_loose", defArgs (top 44), defBody (top 44), defScope (top 44), [], []⟩, ⟨("_law_b_copy", none), "_law_b_copy", "_law_b_copy", defArgs (top 45), defBody (top 45), defScope (top 45), [], []⟩, ⟨("_law_r_low", none), "_law_r_low", "_law_r_low", defArgs (top 47), defBody (top 47), defScope (top 47), [], []⟩, ⟨("_law_r_sum", none), "_law_r_sum", "_law_r_sum", defArgs (top 48), defBody (top 48), defScope (top 48), [], []⟩, ⟨("_law_r_times", none), "_law_r_times", "_law_r_times", defArgs (top 49), defBody (top 49), defScope (top 49), [], []⟩, ⟨("_law_r_over", none), "_law_r_over", "_law_r_over", defArgs (top 50), defBody (top 50), defScope (top 50), [], []⟩, ⟨("_law_r_minus", none), "_law_r_minus", "_law_r_minus", defArgs (top 51), defBody (top 51), defScope (top 51), [], []⟩, ⟨("_law_r_drawn", none), "_law_r_drawn", "_law_r_drawn", defArgs (top 52), defBody (top 52), defScope (top 52), [], []⟩, ⟨("_law_r_is", none), "_law_r_is", "_law_r_is", defArgs (top 53), defBody (top 53), defScope (top 53), [], []⟩] : List DefD) ++ ([⟨("_law_r_trimmed", none), "_law_r_trimmed", "_law_r_trimmed", defArgs (top 54), defBody (top 54), defScope (top 54), [], []⟩, ⟨("_law_r_entry", none), "_law_r_entry", "_law_r_entry", defArgs (top 55), defBody (top 55), defScope (top 55), [], []⟩, ⟨("_law_r_product", none), "_law_r_product", "_law_r_product", defArgs (top 56), defBody (top 56), defScope (top 56), [], []⟩, ⟨("_law_n_poly", none), "_law_n_poly", "_law_n_poly", defArgs (top 58), defBody (top 58), defScope (top 58), [], []⟩, ⟨("_law_n_is", none), "_law_n_is", "_law_n_is", defArgs (top 59), defBody (top 59), defScope (top 59), [], []⟩, ⟨("_law_very", none), "_law_very", "_law_very", defArgs (top 42), defBody (top 42), defScope (top 42), [], []⟩, ⟨("_law_n_met", none), "_law_n_met", "_law_n_met", defArgs (top 57), defBody (top 57), defScope (top 57), [], []⟩, ⟨("_law_spring", none), "_law_spring", "_law_spring", defArgs (top 38), defBody (top 38), defScope (top 38), [], []⟩, ⟨("_law_n_ratios", none), "_law_n_ratios", "_law_n_ratios", defArgs (top 60), defBody (top 60), defScope (top 60), [], []⟩, ⟨("_law_n_polys", none), "_law_n_polys", "_law_n_polys", defArgs (top 61), defBody (top 61), defScope (top 61), [], []⟩, ⟨("law", none), "law", "law", defArgs (top 62), defBody (top 62), defScope (top 62), [], []⟩] : List DefD)
def faY : List Fa := ([.glo "is_integer", .glo "is_list", .glo "common", .glo "lowest", .glo "is_ratio", .glo "plus", .glo "minus", .glo "multiplied", .glo "divided", .glo "check_ratios", .glo "ratio_sum", .glo "ratio_less", .glo "ratio_times", .glo "ratio_over", .glo "is_poly", .glo "trimmed", .glo "entry", .glo "poly_plus", .glo "poly_minus", .glo "poly_product", .glo "derived", .glo "check_polys", .glo "poly_sum", .glo "poly_less", .glo "poly_times", .glo "poly_derived", .glo "poly_at", .glo "_law_draw", .glo "_law_pick", .glo "_law_mixed"] : List Fa) ++ ([.glo "_law_same", .glo "_law_loose", .glo "_law_b_copy", .glo "_law_r_low", .glo "_law_r_sum", .glo "_law_r_times", .glo "_law_r_over", .glo "_law_r_minus", .glo "_law_r_drawn", .glo "_law_r_is", .glo "_law_r_trimmed", .glo "_law_r_entry", .glo "_law_r_product", .glo "_law_n_poly", .glo "_law_n_is", .glo "_law_very", .glo "_law_n_met", .glo "_law_spring", .glo "_law_n_ratios", .glo "_law_n_polys", .glo "law", .glo "BadRatio", .glo "Nought", .glo "BadPoly", .glo "NONE", .free "abs", .free "all", .free "bool", .free "dict", .free "enumerate"] : List Fa) ++ ([.free "int", .free "isinstance", .free "len", .free "list", .free "max", .free "min", .free "range", .free "reversed", .free "str", .free "tuple", .free "zip", .free "repr", .int "HUNDRED" 100, .noat "BadRatio" "ratio", .noat "Nought" "ratio", .noat "BadPoly" "poly", .exm "BadRatio" "BadRatio" true, .exm "Nought" "BadRatio" false, .exm "BadPoly" "BadRatio" false, .exm "Nought" "Nought" true, .exm "BadPoly" "Nought" false, .exm "BadPoly" "BadPoly" true] : List Fa)
def tfY : List Defn := [("_law_n_ratios", none), ("_law_n_polys", none)]
def exY (K : PySem.W.Frag) : Bool := supB PySem.Challenge.pw_seriesmill_k01_whole_fractions_and_polyn K "BadRatio" "BadRatio.__init__" "ratio" && supB PySem.Challenge.pw_seriesmill_k01_whole_fractions_and_polyn K "Nought" "Nought.__init__" "ratio" && supB PySem.Challenge.pw_seriesmill_k01_whole_fractions_and_polyn K "BadPoly" "BadPoly.__init__" "poly" && tupB K "NONE" [.int 0, .int 1] && xfB K (ga K "BadRatio") && xfB K (ga K "Nought") && xfB K (ga K "BadPoly") && decide ((cT K ("_law_n_ratios", none)).2 ≠ (cT K ("_law_n_polys", none)).2)
def iniY : List (Str × FnI) := [("BadRatio", some (("__init__" : Str), "BadRatio.__init__", defArgs iRatio, .stmts (defBody iRatio), SupX.iS "ratio", mainGlobals, builtinsNs)), ("Nought", some (("__init__" : Str), "Nought.__init__", defArgs iNought, .stmts (defBody iNought), SupX.iS "ratio", mainGlobals, builtinsNs)), ("BadPoly", some (("__init__" : Str), "BadPoly.__init__", defArgs iPoly, .stmts (defBody iPoly), SupX.iS "poly", mainGlobals, builtinsNs))]
abbrev RY : PySem.W.OpenRow := PySem.W.OpenLaw.row PySem.Challenge.rw_seriesmill_k01_whole_fractions_and_polyn
abbrev hkY : PySem.W.Hook := hookY 5 faY fnY tfY exY iniY
def obY_ (s : PySem.W.SharedT) : AlY := obsY 5 faY fnY tfY exY iniY (HandSHeadRun.getT s)
theorem obY_eq (s : PySem.W.SharedT) : obY_ s = hkY.obs s.abs := obsY_eq (HandSHeadRun.getT_eq s)
def looseY : List PySem.Str := (["is_integer", "is_list", "MillError", "BadRatio", "Nought", "BadPoly", "NONE", "common", "lowest", "is_ratio", "plus", "minus", "multiplied", "divided", "check_ratios", "ratio_sum", "ratio_less", "ratio_times", "ratio_over", "HUNDRED", "is_poly", "trimmed", "entry", "poly_plus", "poly_minus", "poly_product", "derived", "check_polys", "poly_sum", "poly_less"] : List PySem.Str) ++ (["poly_times", "poly_derived", "poly_at", "_law_spring", "_law_draw", "_law_pick", "_law_mixed", "_law_very", "_law_same", "_law_loose", "_law_b_copy", "_law_b_names", "_law_r_low", "_law_r_sum", "_law_r_times", "_law_r_over", "_law_r_minus", "_law_r_drawn", "_law_r_is", "_law_r_trimmed", "_law_r_entry", "_law_r_product", "_law_n_met", "_law_n_poly", "_law_n_is", "_law_n_ratios", "_law_n_polys"] : List PySem.Str)
theorem runY (w : World) : HandSHeadRun.RunEq RY (PySem.W.view RY.prog [62]) hkY obY_ 20000 looseY w := by
  intro os
  kernel_rfl
end LW
set_option Elab.async false
set_option linter.all false
set_option maxRecDepth 100000
set_option maxHeartbeats 0
/-! printed by genHead01.py: k01's end -/
namespace LW
open PySem PySem.Spec PyProof.Rows L2 RT RZ Ev LamX LamD SupX He HeY
def nmY : List Str := (["is_integer", "is_list", "common", "lowest", "is_ratio", "plus", "minus", "multiplied", "divided", "check_ratios", "ratio_sum", "ratio_less", "ratio_times", "ratio_over", "is_poly", "trimmed", "entry", "poly_plus", "poly_minus", "poly_product"] : List Str) ++ (["derived", "check_polys", "poly_sum", "poly_less", "poly_times", "poly_derived", "poly_at", "_law_draw", "_law_pick", "_law_mixed", "_law_same", "_law_loose", "_law_b_copy", "_law_r_low", "_law_r_sum", "_law_r_times", "_law_r_over", "_law_r_minus", "_law_r_drawn", "_law_r_is"] : List Str) ++ (["_law_r_trimmed", "_law_r_entry", "_law_r_product", "_law_n_poly", "_law_n_is", "_law_very"] : List Str)
abbrev aY (K : PySem.W.Frag) (i : Nat) : Addr := ga K (nmY.getD i "")
abbrev fY (K : PySem.W.Frag) (i : Nat) : FuncData := fdOf K (aY K i)
section
variable {P : Program} {w : World} {K : PySem.W.Frag} {mg : Str → Option Value} {base : Heap} {a : Nat → Addr} {fd : Nat → FuncData} {h : Heap}
theorem goodY (T : Txt K mg a fd) : ∀ n, Good P w K mg base a fd n
  | 0 => ⟨fn_zero, fn_zero, fn_zero, fn_zero, fn_zero, fn_zero, fn_zero, fn_zero, fn_zero, fn_zero, fn_zero, fn_zero, fn_zero, fn_zero, fn_zero, fn_zero, fn_zero, fn_zero, fn_zero, fn_zero, fn_zero, fn_zero, fn_zero, fn_zero, fn_zero, fn_zero, fn_zero, fn_zero, fn_zero, fn_zero, fn_zero, fn_zero, fn_zero, fn_zero, fn_zero, fn_zero, fn_zero, fn_zero, fn_zero, fn_zero, fn_zero, fn_zero, fn_zero, fn_zero, fn_zero, fn_zero⟩
  | n + 1 => have g := goodY T n
    ⟨st_is_integer g T, st_is_list g T, st_common g T, st_lowest g T, st_is_ratio g T, st_plus g T, st_minus g T, st_multiplied g T, st_divided g T, st_check_ratios g T, st_ratio_sum g T, st_ratio_less g T, st_ratio_times g T, st_ratio_over g T, st_is_poly g T, st_trimmed g T, st_entry g T, st_poly_plus g T, st_poly_minus g T, st_poly_product g T, st_derived g T, st_check_polys g T, st_poly_sum g T, st_poly_less g T, st_poly_times g T, st_poly_derived g T, st_poly_at g T, st__law_draw g T, st__law_pick g T, st__law_mixed g T, st__law_same g T, st__law_loose g T, st__law_b_copy g T, st__law_r_low g T, st__law_r_sum g T, st__law_r_times g T, st__law_r_over g T, st__law_r_minus g T, st__law_r_drawn g T, st__law_r_is g T, st__law_r_trimmed g T, st__law_r_entry g T, st__law_r_product g T, st__law_n_poly g T, st__law_n_is g T, st__law_very g T⟩
theorem exY_all (hx : exY K = true) : (supB PySem.Challenge.pw_seriesmill_k01_whole_fractions_and_polyn K "BadRatio" "BadRatio.__init__" "ratio" = true ∧ supB PySem.Challenge.pw_seriesmill_k01_whole_fractions_and_polyn K "Nought" "Nought.__init__" "ratio" = true ∧ supB PySem.Challenge.pw_seriesmill_k01_whole_fractions_and_polyn K "BadPoly" "BadPoly.__init__" "poly" = true) ∧ tupB K "NONE" [.int 0, .int 1] = true ∧ (xfB K (ga K "BadRatio") = true ∧ xfB K (ga K "Nought") = true ∧ xfB K (ga K "BadPoly") = true) ∧ (cT K ("_law_n_ratios", none)).2 ≠ (cT K ("_law_n_polys", none)).2 := by
  unfold exY at hx
  simp only [Bool.and_eq_true, decide_eq_true_eq] at hx
  obtain ⟨⟨⟨⟨⟨⟨⟨s1, s2⟩, s3⟩, t⟩, x1⟩, x2⟩, x3⟩, d⟩ := hx
  exact ⟨⟨s1, s2, s3⟩, t, ⟨x1, x2, x3⟩, d⟩
theorem txtY (X : K.In h) (G : h.Ns mainGlobals mg) (c : SaysY faY fnY tfY exY iniY h K) : Txt K mg (aY K) (fY K) where
  d_is_integer := funD_at (c.d.def_ 0 (d := ⟨("is_integer", none), "is_integer", "is_integer", defArgs (top 1), defBody (top 1), defScope (top 1), [], []⟩) rfl)
  m_is_integer := glo_ok X G (c.d.fact 0 (f := .glo "is_integer") rfl)
  d_is_list := funD_at (c.d.def_ 1 (d := ⟨("is_list", none), "is_list", "is_list", defArgs (top 2), defBody (top 2), defScope (top 2), [], []⟩) rfl)
  m_is_list := glo_ok X G (c.d.fact 1 (f := .glo "is_list") rfl)
  d_common := funD_at (c.d.def_ 2 (d := ⟨("common", none), "common", "common", defArgs (top 10), defBody (top 10), defScope (top 10), [], []⟩) rfl)
  m_common := glo_ok X G (c.d.fact 2 (f := .glo "common") rfl)
  d_lowest := funD_at (c.d.def_ 3 (d := ⟨("lowest", none), "lowest", "lowest", defArgs (top 11), defBody (top 11), defScope (top 11), [], []⟩) rfl)
  m_lowest := glo_ok X G (c.d.fact 3 (f := .glo "lowest") rfl)
  d_is_ratio := funD_at (c.d.def_ 4 (d := ⟨("is_ratio", none), "is_ratio", "is_ratio", defArgs (top 12), defBody (top 12), defScope (top 12), [], []⟩) rfl)
  m_is_ratio := glo_ok X G (c.d.fact 4 (f := .glo "is_ratio") rfl)
  d_plus := funD_at (c.d.def_ 5 (d := ⟨("plus", none), "plus", "plus", defArgs (top 13), defBody (top 13), defScope (top 13), [], []⟩) rfl)
  m_plus := glo_ok X G (c.d.fact 5 (f := .glo "plus") rfl)
  d_minus := funD_at (c.d.def_ 6 (d := ⟨("minus", none), "minus", "minus", defArgs (top 14), defBody (top 14), defScope (top 14), [], []⟩) rfl)
  m_minus := glo_ok X G (c.d.fact 6 (f := .glo "minus") rfl)
  d_multiplied := funD_at (c.d.def_ 7 (d := ⟨("multiplied", none), "multiplied", "multiplied", defArgs (top 15), defBody (top 15), defScope (top 15), [], []⟩) rfl)
  m_multiplied := glo_ok X G (c.d.fact 7 (f := .glo "multiplied") rfl)
  d_divided := funD_at (c.d.def_ 8 (d := ⟨("divided", none), "divided", "divided", defArgs (top 16), defBody (top 16), defScope (top 16), [], []⟩) rfl)
  m_divided := glo_ok X G (c.d.fact 8 (f := .glo "divided") rfl)
  d_check_ratios := funD_at (c.d.def_ 9 (d := ⟨("check_ratios", none), "check_ratios", "check_ratios", defArgs (top 17), defBody (top 17), defScope (top 17), [], []⟩) rfl)
  m_check_ratios := glo_ok X G (c.d.fact 9 (f := .glo "check_ratios") rfl)
  d_ratio_sum := funD_at (c.d.def_ 10 (d := ⟨("ratio_sum", none), "ratio_sum", "ratio_sum", defArgs (top 18), defBody (top 18), defScope (top 18), [], []⟩) rfl)
  m_ratio_sum := glo_ok X G (c.d.fact 10 (f := .glo "ratio_sum") rfl)
  d_ratio_less := funD_at (c.d.def_ 11 (d := ⟨("ratio_less", none), "ratio_less", "ratio_less", defArgs (top 19), defBody (top 19), defScope (top 19), [], []⟩) rfl)
  m_ratio_less := glo_ok X G (c.d.fact 11 (f := .glo "ratio_less") rfl)
  d_ratio_times := funD_at (c.d.def_ 12 (d := ⟨("ratio_times", none), "ratio_times", "ratio_times", defArgs (top 20), defBody (top 20), defScope (top 20), [], []⟩) rfl)
  m_ratio_times := glo_ok X G (c.d.fact 12 (f := .glo "ratio_times") rfl)
  d_ratio_over := funD_at (c.d.def_ 13 (d := ⟨("ratio_over", none), "ratio_over", "ratio_over", defArgs (top 21), defBody (top 21), defScope (top 21), [], []⟩) rfl)
  m_ratio_over := glo_ok X G (c.d.fact 13 (f := .glo "ratio_over") rfl)
  d_is_poly := funD_at (c.d.def_ 14 (d := ⟨("is_poly", none), "is_poly", "is_poly", defArgs (top 24), defBody (top 24), defScope (top 24), [], []⟩) rfl)
  m_is_poly := glo_ok X G (c.d.fact 14 (f := .glo "is_poly") rfl)
  d_trimmed := funD_at (c.d.def_ 15 (d := ⟨("trimmed", none), "trimmed", "trimmed", defArgs (top 25), defBody (top 25), defScope (top 25), [], []⟩) rfl)
  m_trimmed := glo_ok X G (c.d.fact 15 (f := .glo "trimmed") rfl)
  d_entry := funD_at (c.d.def_ 16 (d := ⟨("entry", none), "entry", "entry", defArgs (top 26), defBody (top 26), defScope (top 26), [], []⟩) rfl)
  m_entry := glo_ok X G (c.d.fact 16 (f := .glo "entry") rfl)
  d_poly_plus := funD_at (c.d.def_ 17 (d := ⟨("poly_plus", none), "poly_plus", "poly_plus", defArgs (top 27), defBody (top 27), defScope (top 27), [], []⟩) rfl)
  m_poly_plus := glo_ok X G (c.d.fact 17 (f := .glo "poly_plus") rfl)
  d_poly_minus := funD_at (c.d.def_ 18 (d := ⟨("poly_minus", none), "poly_minus", "poly_minus", defArgs (top 28), defBody (top 28), defScope (top 28), [], []⟩) rfl)
  m_poly_minus := glo_ok X G (c.d.fact 18 (f := .glo "poly_minus") rfl)
  d_poly_product := funD_at (c.d.def_ 19 (d := ⟨("poly_product", none), "poly_product", "poly_product", defArgs (top 29), defBody (top 29), defScope (top 29), [], []⟩) rfl)
  m_poly_product := glo_ok X G (c.d.fact 19 (f := .glo "poly_product") rfl)
  d_derived := funD_at (c.d.def_ 20 (d := ⟨("derived", none), "derived", "derived", defArgs (top 30), defBody (top 30), defScope (top 30), [], []⟩) rfl)
  m_derived := glo_ok X G (c.d.fact 20 (f := .glo "derived") rfl)
  d_check_polys := funD_at (c.d.def_ 21 (d := ⟨("check_polys", none), "check_polys", "check_polys", defArgs (top 31), defBody (top 31), defScope (top 31), [], []⟩) rfl)
  m_check_polys := glo_ok X G (c.d.fact 21 (f := .glo "check_polys") rfl)
  d_poly_sum := funD_at (c.d.def_ 22 (d := ⟨("poly_sum", none), "poly_sum", "poly_sum", defArgs (top 32), defBody (top 32), defScope (top 32), [], []⟩) rfl)
  m_poly_sum := glo_ok X G (c.d.fact 22 (f := .glo "poly_sum") rfl)
  d_poly_less := funD_at (c.d.def_ 23 (d := ⟨("poly_less", none), "poly_less", "poly_less", defArgs (top 33), defBody (top 33), defScope (top 33), [], []⟩) rfl)
  m_poly_less := glo_ok X G (c.d.fact 23 (f := .glo "poly_less") rfl)
  d_poly_times := funD_at (c.d.def_ 24 (d := ⟨("poly_times", none), "poly_times", "poly_times", defArgs (top 34), defBody (top 34), defScope (top 34), [], []⟩) rfl)
  m_poly_times := glo_ok X G (c.d.fact 24 (f := .glo "poly_times") rfl)
  d_poly_derived := funD_at (c.d.def_ 25 (d := ⟨("poly_derived", none), "poly_derived", "poly_derived", defArgs (top 35), defBody (top 35), defScope (top 35), [], []⟩) rfl)
  m_poly_derived := glo_ok X G (c.d.fact 25 (f := .glo "poly_derived") rfl)
  d_poly_at := funD_at (c.d.def_ 26 (d := ⟨("poly_at", none), "poly_at", "poly_at", defArgs (top 36), defBody (top 36), defScope (top 36), [], []⟩) rfl)
  m_poly_at := glo_ok X G (c.d.fact 26 (f := .glo "poly_at") rfl)
  d__law_draw := funD_at (c.d.def_ 27 (d := ⟨("_law_draw", none), "_law_draw", "_law_draw", defArgs (top 39), defBody (top 39), defScope (top 39), [], []⟩) rfl)
  m__law_draw := glo_ok X G (c.d.fact 27 (f := .glo "_law_draw") rfl)
  d__law_pick := funD_at (c.d.def_ 28 (d := ⟨("_law_pick", none), "_law_pick", "_law_pick", defArgs (top 40), defBody (top 40), defScope (top 40), [], []⟩) rfl)
  m__law_pick := glo_ok X G (c.d.fact 28 (f := .glo "_law_pick") rfl)
  d__law_mixed := funD_at (c.d.def_ 29 (d := ⟨("_law_mixed", none), "_law_mixed", "_law_mixed", defArgs (top 41), defBody (top 41), defScope (top 41), [], []⟩) rfl)
  m__law_mixed := glo_ok X G (c.d.fact 29 (f := .glo "_law_mixed") rfl)
  d__law_same := funD_at (c.d.def_ 30 (d := ⟨("_law_same", none), "_law_same", "_law_same", defArgs (top 43), defBody (top 43), defScope (top 43), [], []⟩) rfl)
  m__law_same := glo_ok X G (c.d.fact 30 (f := .glo "_law_same") rfl)
  d__law_loose := funD_at (c.d.def_ 31 (d := ⟨("_law_loose", none), "_law_loose", "_law_loose", defArgs (top 44), defBody (top 44), defScope (top 44), [], []⟩) rfl)
  m__law_loose := glo_ok X G (c.d.fact 31 (f := .glo "_law_loose") rfl)
  d__law_b_copy := funD_at (c.d.def_ 32 (d := ⟨("_law_b_copy", none), "_law_b_copy", "_law_b_copy", defArgs (top 45), defBody (top 45), defScope (top 45), [], []⟩) rfl)
  m__law_b_copy := glo_ok X G (c.d.fact 32 (f := .glo "_law_b_copy") rfl)
  d__law_r_low := funD_at (c.d.def_ 33 (d := ⟨("_law_r_low", none), "_law_r_low", "_law_r_low", defArgs (top 47), defBody (top 47), defScope (top 47), [], []⟩) rfl)
  m__law_r_low := glo_ok X G (c.d.fact 33 (f := .glo "_law_r_low") rfl)
  d__law_r_sum := funD_at (c.d.def_ 34 (d := ⟨("_law_r_sum", none), "_law_r_sum", "_law_r_sum", defArgs (top 48), defBody (top 48), defScope (top 48), [], []⟩) rfl)
  m__law_r_sum := glo_ok X G (c.d.fact 34 (f := .glo "_law_r_sum") rfl)
  d__law_r_times := funD_at (c.d.def_ 35 (d := ⟨("_law_r_times", none), "_law_r_times", "_law_r_times", defArgs (top 49), defBody (top 49), defScope (top 49), [], []⟩) rfl)
  m__law_r_times := glo_ok X G (c.d.fact 35 (f := .glo "_law_r_times") rfl)
  d__law_r_over := funD_at (c.d.def_ 36 (d := ⟨("_law_r_over", none), "_law_r_over", "_law_r_over", defArgs (top 50), defBody (top 50), defScope (top 50), [], []⟩) rfl)
  m__law_r_over := glo_ok X G (c.d.fact 36 (f := .glo "_law_r_over") rfl)
  d__law_r_minus := funD_at (c.d.def_ 37 (d := ⟨("_law_r_minus", none), "_law_r_minus", "_law_r_minus", defArgs (top 51), defBody (top 51), defScope (top 51), [], []⟩) rfl)
  m__law_r_minus := glo_ok X G (c.d.fact 37 (f := .glo "_law_r_minus") rfl)
  d__law_r_drawn := funD_at (c.d.def_ 38 (d := ⟨("_law_r_drawn", none), "_law_r_drawn", "_law_r_drawn", defArgs (top 52), defBody (top 52), defScope (top 52), [], []⟩) rfl)
  m__law_r_drawn := glo_ok X G (c.d.fact 38 (f := .glo "_law_r_drawn") rfl)
  d__law_r_is := funD_at (c.d.def_ 39 (d := ⟨("_law_r_is", none), "_law_r_is", "_law_r_is", defArgs (top 53), defBody (top 53), defScope (top 53), [], []⟩) rfl)
  m__law_r_is := glo_ok X G (c.d.fact 39 (f := .glo "_law_r_is") rfl)
  d__law_r_trimmed := funD_at (c.d.def_ 40 (d := ⟨("_law_r_trimmed", none), "_law_r_trimmed", "_law_r_trimmed", defArgs (top 54), defBody (top 54), defScope (top 54), [], []⟩) rfl)
  m__law_r_trimmed := glo_ok X G (c.d.fact 40 (f := .glo "_law_r_trimmed") rfl)
  d__law_r_entry := funD_at (c.d.def_ 41 (d := ⟨("_law_r_entry", none), "_law_r_entry", "_law_r_entry", defArgs (top 55), defBody (top 55), defScope (top 55), [], []⟩) rfl)
  m__law_r_entry := glo_ok X G (c.d.fact 41 (f := .glo "_law_r_entry") rfl)
  d__law_r_product := funD_at (c.d.def_ 42 (d := ⟨("_law_r_product", none), "_law_r_product", "_law_r_product", defArgs (top 56), defBody (top 56), defScope (top 56), [], []⟩) rfl)
  m__law_r_product := glo_ok X G (c.d.fact 42 (f := .glo "_law_r_product") rfl)
  d__law_n_poly := funD_at (c.d.def_ 43 (d := ⟨("_law_n_poly", none), "_law_n_poly", "_law_n_poly", defArgs (top 58), defBody (top 58), defScope (top 58), [], []⟩) rfl)
  m__law_n_poly := glo_ok X G (c.d.fact 43 (f := .glo "_law_n_poly") rfl)
  d__law_n_is := funD_at (c.d.def_ 44 (d := ⟨("_law_n_is", none), "_law_n_is", "_law_n_is", defArgs (top 59), defBody (top 59), defScope (top 59), [], []⟩) rfl)
  m__law_n_is := glo_ok X G (c.d.fact 44 (f := .glo "_law_n_is") rfl)
  d__law_very := funD_at (c.d.def_ 45 (d := ⟨("_law_very", none), "_law_very", "_law_very", defArgs (top 42), defBody (top 42), defScope (top 42), [], []⟩) rfl)
  m__law_very := glo_ok X G (c.d.fact 45 (f := .glo "_law_very") rfl)
  f_abs := free_ok X G (c.d.fact 55 (f := .free "abs") rfl)
  f_all := free_ok X G (c.d.fact 56 (f := .free "all") rfl)
  f_bool := free_ok X G (c.d.fact 57 (f := .free "bool") rfl)
  f_dict := free_ok X G (c.d.fact 58 (f := .free "dict") rfl)
  f_enumerate := free_ok X G (c.d.fact 59 (f := .free "enumerate") rfl)
  f_int := free_ok X G (c.d.fact 60 (f := .free "int") rfl)
  f_isinstance := free_ok X G (c.d.fact 61 (f := .free "isinstance") rfl)
  f_len := free_ok X G (c.d.fact 62 (f := .free "len") rfl)
  f_list := free_ok X G (c.d.fact 63 (f := .free "list") rfl)
  f_max := free_ok X G (c.d.fact 64 (f := .free "max") rfl)
  f_min := free_ok X G (c.d.fact 65 (f := .free "min") rfl)
  f_range := free_ok X G (c.d.fact 66 (f := .free "range") rfl)
  f_reversed := free_ok X G (c.d.fact 67 (f := .free "reversed") rfl)
  f_str := free_ok X G (c.d.fact 68 (f := .free "str") rfl)
  f_tuple := free_ok X G (c.d.fact 69 (f := .free "tuple") rfl)
  f_zip := free_ok X G (c.d.fact 70 (f := .free "zip") rfl)
  k_HUNDRED := let ⟨t, e⟩ := int_ok X G (c.d.fact 72 (f := .int "HUNDRED" 100) rfl)
    ⟨.int 100, _, e, ⟨t, rfl⟩, .int 100⟩
  k_NONE := ⟨.ref (ga K "NONE"), _, glo_ok X G (c.d.fact 54 (f := .glo "NONE") rfl), rfl, .tup (tupB_ok (exY_all c.more).2.1 _) (.cons (.int 0) (.cons (.int 1) .nil))⟩
theorem sup_iRatio : SupS (defArgs iRatio) (iS "ratio") "ratio" := ⟨fun _ _ _ _ _ _ _ _ _ _ => rfl, rfl, rfl, rfl, rfl, by decide +kernel, rfl, rfl, rfl, ⟨_, rfl, rfl⟩, by decide +kernel, by decide +kernel⟩
theorem sup_iNought : SupS (defArgs iNought) (iS "ratio") "ratio" := ⟨fun _ _ _ _ _ _ _ _ _ _ => rfl, rfl, rfl, rfl, rfl, by decide +kernel, rfl, rfl, rfl, ⟨_, rfl, rfl⟩, by decide +kernel, by decide +kernel⟩
theorem sup_iPoly : SupS (defArgs iPoly) (iS "poly") "poly" := ⟨fun _ _ _ _ _ _ _ _ _ _ => rfl, rfl, rfl, rfl, rfl, by decide +kernel, rfl, rfl, rfl, ⟨_, rfl, rfl⟩, by decide +kernel, by decide +kernel⟩
theorem xtY (X : K.In h) (G : h.Ns mainGlobals mg) (c : SaysY faY fnY tfY exY iniY h K) : XTxt PySem.Challenge.pw_seriesmill_k01_whole_fractions_and_polyn K mg (ga K "BadRatio") (ga K "Nought") (ga K "BadPoly") := by
  obtain ⟨⟨s1, s2, s3⟩, _⟩ := exY_all c.more
  exact ⟨supCls_of s1 (c.ini _ (by unfold iniY; exact List.mem_cons_self)) sup_iRatio (glo_ok X G (c.d.fact 51 (f := .glo "BadRatio") rfl)) rfl, supCls_of s2 (c.ini _ (by unfold iniY; exact List.mem_cons_of_mem _ List.mem_cons_self)) sup_iNought (glo_ok X G (c.d.fact 52 (f := .glo "Nought") rfl)) rfl, supCls_of s3 (c.ini _ (by unfold iniY; exact List.mem_cons_of_mem _ (List.mem_cons_of_mem _ List.mem_cons_self))) sup_iPoly (glo_ok X G (c.d.fact 53 (f := .glo "BadPoly") rfl)) rfl⟩
theorem xmY (X : K.In h) (G : h.Ns mainGlobals mg) (c : SaysY faY fnY tfY exY iniY h K) : XMet K mg (ga K "BadRatio") (ga K "Nought") (ga K "BadPoly") := by
  obtain ⟨_, _, ⟨x1, x2, x3⟩, _⟩ := exY_all c.more
  exact ⟨glo_ok X G (c.d.fact 51 (f := .glo "BadRatio") rfl), glo_ok X G (c.d.fact 52 (f := .glo "Nought") rfl), glo_ok X G (c.d.fact 53 (f := .glo "BadPoly") rfl), xfB_ok x1, xfB_ok x2, xfB_ok x3, noat_ok (c.d.fact 73 (f := .noat "BadRatio" "ratio") rfl), noat_ok (c.d.fact 74 (f := .noat "Nought" "ratio") rfl), noat_ok (c.d.fact 75 (f := .noat "BadPoly" "poly") rfl), exm_ok (c.d.fact 76 (f := .exm "BadRatio" "BadRatio" true) rfl), exm_ok (c.d.fact 77 (f := .exm "Nought" "BadRatio" false) rfl), exm_ok (c.d.fact 78 (f := .exm "BadPoly" "BadRatio" false) rfl), exm_ok (c.d.fact 79 (f := .exm "Nought" "Nought" true) rfl), exm_ok (c.d.fact 80 (f := .exm "BadPoly" "Nought" false) rfl), exm_ok (c.d.fact 81 (f := .exm "BadPoly" "BadPoly" true) rfl)⟩
theorem tabs0 {T : List (Addr × Str)} {H : Hp} (h : ∀ p ∈ T, H p.1 = some (.tbl #[])) : Tabs T H := fun p hp => ⟨#[], h p hp, trivial, fun pos cv hc => by cases hc⟩
theorem code_at {p : Defn} {x q : Str} {pa : Arguments} {b : List Stmt} {sc : Scope} {dvs : List V} {kws : List (Str × V)} {fd : FuncData} (F : FunD K x q pa b sc dvs kws (fAd K p) fd) : fd.code = .ref (codeOf K p) := by
  obtain ⟨oc, od, dV, kV, doc, pm, an, cdv, ct, osl, rfl, lk, hcd, _⟩ := F.ex
  obtain ⟨cc, rfl⟩ := codeIn_ref hcd
  rw [codeOf_eq lk rfl]
end
/-- all that the head tells of the law -/
theorem lawY {w : World} {mg : Str → Option Value} {fa : Addr} {h : Heap} {K : PySem.W.Frag} (X : K.In h) (G : h.Ns mainGlobals mg) (hfa : mg ("law" : Str) = some (.ref fa)) (c : SaysY faY fnY tfY exY iniY h K) : ∃ (K : Frag) (fd : FuncData) (cs : List (Addr × Addr)) (sp : Sp), K.In h ∧ (∀ p ∈ cs, h.get? p.2 = some { cls := .none, data := .fields #[] } ∧ K.lookup p.2 = none ∧ PySem.W.CodeHd h p.1 p.2) ∧
      (∀ (s : Shared) (u : Value), BindsTo s fd ⟨[u], []⟩ [("script", u)]) ∧ (∀ (H : Hp) (a : Addr) (ns : List Int), (∀ p ∈ cs, H p.2 = some (.tbl #[])) → SqL K H a (ns.map V.int) → sp [.ref a] H (fun v _ => v = .bl true) fun _ _ _ => False) ∧
      ∀ base : Heap, K.In base → base.Ns mainGlobals mg → (∀ p ∈ cs, TabB base mg p.1 p.2) → FnOkG PySem.Challenge.pw_seriesmill_k01_whole_fractions_and_polyn w K mg base CX0 9 fa fd ["script"] sp := by
  have e := hfa.symm.trans (glo_ok X G (c.d.fact 50 (f := .glo "law") rfl))
  cases e
  have FL : FunD K "law" "law" (defArgs sLaw) (defBody sLaw) (defScope sLaw) [] [] (ga K "law") (fdOf K (ga K "law")) := funD_at (c.d.def_ 50 (d := ⟨("law", none), "law", "law", defArgs (top 62), defBody (top 62), defScope (top 62), [], []⟩) rfl)
  have FR : FunD K "_law_n_ratios" "_law_n_ratios" (defArgs sRat) (defBody sRat) (defScope sRat) [] [] (ga K "_law_n_ratios") (fdOf K (ga K "_law_n_ratios")) := funD_at (c.d.def_ 48 (d := ⟨("_law_n_ratios", none), "_law_n_ratios", "_law_n_ratios", defArgs (top 60), defBody (top 60), defScope (top 60), [], []⟩) rfl)
  have FP : FunD K "_law_n_polys" "_law_n_polys" (defArgs sPol) (defBody sPol) (defScope sPol) [] [] (ga K "_law_n_polys") (fdOf K (ga K "_law_n_polys")) := funD_at (c.d.def_ 49 (d := ⟨("_law_n_polys", none), "_law_n_polys", "_law_n_polys", defArgs (top 61), defBody (top 61), defScope (top 61), [], []⟩) rfl)
  have FS : FunD K "_law_spring" "_law_spring" (defArgs sSpring) (defBody sSpring) (defScope sSpring) [] [] (ga K "_law_spring") (fdOf K (ga K "_law_spring")) := funD_at (c.d.def_ 47 (d := ⟨("_law_spring", none), "_law_spring", "_law_spring", defArgs (top 38), defBody (top 38), defScope (top 38), [], []⟩) rfl)
  have FM : FunD K "_law_n_met" "_law_n_met" (defArgs sMet) (defBody sMet) (defScope sMet) [] [] (ga K "_law_n_met") (fdOf K (ga K "_law_n_met")) := funD_at (c.d.def_ 46 (d := ⟨("_law_n_met", none), "_law_n_met", "_law_n_met", defArgs (top 57), defBody (top 57), defScope (top 57), [], []⟩) rfl)
  have b := FunD.bindsA (ps := ["script"]) FL fun _ _ _ _ _ _ us hl => match us, hl with | [_], _ => rfl
  obtain ⟨_, _, _, ne⟩ := exY_all c.more
  refine ⟨K, _, tfY.map (cT K), spLaw K [((cT K ("_law_n_ratios", none)).2, "_law_n_ratios.<locals>.<lambda>"), ((cT K ("_law_n_polys", none)).2, "_law_n_polys.<locals>.<lambda>")], X, fun p hp => ?_, fun s v => b s [v] rfl, fun H a ns hH hS => ⟨a, ns, rfl, hS, tabs0 fun p hp => ?_, fun _ => rfl⟩, fun base KB GB TB => ?_⟩
  · obtain ⟨d, hd, rfl⟩ := List.mem_map.mp hp
    obtain ⟨t1, t2, t3⟩ := c.tab d hd
    exact ⟨t3, t2, PySem.W.codeHd_of_K X t1⟩
  · simp only [List.mem_cons, List.not_mem_nil, or_false] at hp
    rcases hp with rfl | rfl
    · exact hH (cT K ("_law_n_ratios", none)) (List.mem_map_of_mem (by unfold tfY; exact List.mem_cons_self))
    · exact hH (cT K ("_law_n_polys", none)) (List.mem_map_of_mem (by unfold tfY; exact List.mem_cons_of_mem _ List.mem_cons_self))
  · have T := txtY X G c
    have hh : Hnd PySem.Challenge.pw_seriesmill_k01_whole_fractions_and_polyn w K mg base (aY K) (fY K) (ga K "BadRatio") (ga K "Nought") (ga K "BadPoly") (ga K "_law_n_met") (fdOf K (ga K "_law_n_met")) := ⟨goodY T, T, xtY X G c, xmY X G c, FM, glo_ok X G (c.d.fact 46 (f := .glo "_law_n_met") rfl)⟩
    have T1 := TB (cT K ("_law_n_ratios", none)) (List.mem_map_of_mem (by unfold tfY; exact List.mem_cons_self))
    have T2 := TB (cT K ("_law_n_polys", none)) (List.mem_map_of_mem (by unfold tfY; exact List.mem_cons_of_mem _ List.mem_cons_self))
    have O1 : Own1 base mg [((cT K ("_law_n_ratios", none)).2, "_law_n_ratios.<locals>.<lambda>"), ((cT K ("_law_n_polys", none)).2, "_law_n_polys.<locals>.<lambda>")] "_law_n_ratios.<locals>.<lambda>" (cT K ("_law_n_ratios", none)).1 (cT K ("_law_n_ratios", none)).2 := ⟨T1, List.mem_cons_self, fun p hp hq => by
      simp only [List.mem_cons, List.not_mem_nil, or_false] at hp
      rcases hp with rfl | rfl
      · rfl
      · exact absurd hq.symm ne⟩
    have O2 : Own1 base mg [((cT K ("_law_n_ratios", none)).2, "_law_n_ratios.<locals>.<lambda>"), ((cT K ("_law_n_polys", none)).2, "_law_n_polys.<locals>.<lambda>")] "_law_n_polys.<locals>.<lambda>" (cT K ("_law_n_polys", none)).1 (cT K ("_law_n_polys", none)).2 := ⟨T2, List.mem_cons_of_mem _ List.mem_cons_self, fun p hp hq => by
      simp only [List.mem_cons, List.not_mem_nil, or_false] at hp
      rcases hp with rfl | rfl
      · exact absurd hq ne
      · rfl⟩
    exact law_ok (m := 0) hh FS (glo_ok X G (c.d.fact 47 (f := .glo "_law_spring") rfl)) (ok_ratios (m := 0) hh (free_ok X G (c.d.fact 71 (f := .free "repr") rfl)) FR (code_at (p := ("_law_n_ratios", none)) FR) O1) FR (glo_ok X G (c.d.fact 48 (f := .glo "_law_n_ratios") rfl)) (ok_polys (m := 0) hh (free_ok X G (c.d.fact 71 (f := .free "repr") rfl)) FP (code_at (p := ("_law_n_polys", none)) FP) O2) FP (glo_ok X G (c.d.fact 49 (f := .glo "_law_n_polys") rfl)) FL
end LW
open PySem PySem.W PySem.Calls PyProof.Rows
theorem PySem.Challenge.cw_seriesmill_k01_whole_fractions_and_polyn_holds : PySem.Challenge.rw_seriesmill_k01_whole_fractions_and_polyn.Holds := by
  w_on; o_law
  refine HandSHeadRun.head_any (r := LW.RY) (q := view LW.RY.prog [62]) (H := LW.hkY) (ob := LW.obY_) (M := 20000) (loose := LW.looseY) (d := HandSHeadRun.topDef LW.RY.prog 62) (kwd := []) LW.obY_eq
    (by kernel_rfl) (fun s => by kernel_rfl) LW.runY (by kernel_rfl) (by kernel_rfl) (by kernel_rfl) (by rfl) (by first | assumption | decide +kernel) (by decide +kernel) ⟨rfl, rfl, rfl, rfl, rfl, by decide +kernel⟩ ?hw ?hc
  case hw => w_witness2
  case hc =>
    refine Ev.walk_ofG (l := PySem.Challenge.rw_seriesmill_k01_whole_fractions_and_polyn) (n := 63) (k := 9) (x := "script") rfl (by decide) (by kernel_rfl) ⟨rfl, by decide, by decide⟩ ?F
    intro w mg fa h Y G hmg0
    obtain ⟨K, KX, c⟩ := Y
    have hmg : mg ("law" : PySem.Str) = some (.ref fa) := by
      have e : (HandSHeadRun.topDef LW.RY.prog 62).name = ("law" : PySem.Str) := by kernel_rfl
      rw [← e]
      exact hmg0
    exact LW.lawY KX G hmg c
