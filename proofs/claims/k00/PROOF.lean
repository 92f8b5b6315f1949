import PyProof.Rows.All
import Wide.All
import OpenK.AllK
import Wide.FinOn
import HandS.ForMost
import HandS.IsInst
import HandS.Wide
import HandS.Flow
import HandS.Codes
import HandS.Conv
import HandS.TupAny
import HandS.Defaults
import HandS.Zip
import HandS.Rev
import PyProof.EnumMake
import PyProof.Draws
import HandS.Zip0
import HandS.Iter
import HandS.Dict
import PySem.Challenge.RW_seriesmill_k00_errors_made
import PyProof.ReprRoads
import HandS.Lambda
import KE.KDflt
import HandS.Nested
import HandS.TryMany
import HandS.ExcField
import HandS.Exc
import HandS.Words
import KE.KSuper
import KE.KExcSuper
import HandS.Base
import HandS.Call
import HandS.ExcInit
import HandS.ExcSuper
import HandS.More
import HandS.ExcValue
import HandS.ExcIs
import HandS.WordsDict
import HandS.EndTab
import HandS.HeadHook4
import KE.KStateDown
import Lean
import HandS.Head0
import HandS.Head1
import HandS.Head2
set_option Elab.async false
set_option linter.all false
set_option maxRecDepth 100000
/-! Ev1: a small language of pure defs with value semantics: data are PyData; a local list that a def fills is "own" until it is handed on. -/
namespace Ev
open PySem PySem.Spec PyProof.Rows

/-- a local's worth: plain data that nobody changes, or a list of the def's own -/
inductive Ov where
  | imm (d : PyData)
  | own (xs : List PyData)
def Ov.d : Ov → PyData
  | .imm d => d
  | .own xs => .list xs
abbrev Env := List (Option Ov)
def getE (ρ : Env) (i : Nat) : Option Ov := (ρ[i]?).join
def setE (ρ : Env) (i : Nat) (o : Ov) : Env := ρ.set i (some o)
def ownE (ρ : Env) (i : Nat) : Option (List PyData) := match getE ρ i with
  | some (.own xs) => some xs
  | _ => none
def clrE (ρ : Env) (i : Nat) : Env := ρ.set i none

inductive BOp where | add | sub | mul | fdiv | mod | pow
inductive COp where | eq | ne | lt | le | gt | ge | isN | isnN | isin | nin
inductive Blt where | len | abs | int | max | min | all | any | list | tuple

/-! ### operations on data -/
def ll : Nat := 16777216
def mulOk (i j : Int) : Bool := decide (i.natAbs.log2 + j.natAbs.log2 < 1000000)
def divOk (j : Int) : Bool := decide (j ≠ 0) && decide (j.natAbs.log2 < 9000)
def powOk (i j : Int) : Bool := decide (0 ≤ j) && decide (j ≤ 1000000) && decide (i.natAbs < 2 ^ 64)
def repOk (n : Nat) (k : Int) : Bool := decide (-(2 ^ 63) ≤ k) && decide (k < 2 ^ 63) && decide (n * k.toNat ≤ ll)
def binD : BOp → PyData → PyData → Option Ov
  | .add, .int i, .int j => some (.imm (.int (i + j)))
  | .add, .str x, .str y => if x.length + y.length ≤ ll then some (.imm (.str (x ++ y))) else none
  | .add, .list xs, .list ys => if xs.length + ys.length ≤ ll then some (.own (xs ++ ys)) else none
  | .add, .tuple xs, .tuple ys => if xs.length + ys.length ≤ ll ∧ xs ≠ [] then some (.imm (.tuple (xs ++ ys))) else none
  | .sub, .int i, .int j => some (.imm (.int (i - j)))
  | .mul, .int i, .int j => if mulOk i j then some (.imm (.int (i * j))) else none
  | .mul, .list xs, .int k => if repOk xs.length k then some (.own (List.replicate k.toNat xs).flatten) else none
  | .fdiv, .int i, .int j => if divOk j then some (.imm (.int (i.fdiv j))) else none
  | .mod, .int i, .int j => if j ≠ 0 then some (.imm (.int (i.fmod j))) else none
  | .pow, .int i, .int j => if powOk i j then some (.imm (.int (i ^ j.toNat))) else none
  | _, _, _ => none
def flatD : PyData → Bool
  | .none | .bool _ | .int _ | .str _ => true
  | _ => false
def inD (x : PyData) (xs : List PyData) : Option Bool := if flatD x && xs.all flatD then some (xs.any fun y => PyData.eqv y x) else none
def eqD (a b : PyData) : Option Bool := if SeqAt.shaped a && SeqAt.shaped b then some (PyData.eqv a b) else none
def isNone : PyData → Bool
  | .none => true
  | _ => false
def cmpD : COp → PyData → PyData → Option Bool
  | .eq, a, b => eqD a b
  | .ne, a, b => (eqD a b).map (!·)
  | .lt, .int i, .int j => some (decide (i < j))
  | .le, .int i, .int j => some (decide (i ≤ j))
  | .gt, .int i, .int j => some (decide (j < i))
  | .ge, .int i, .int j => some (decide (j ≤ i))
  | .isN, a, .none => some (isNone a)
  | .isnN, a, .none => some (!isNone a)
  | .isin, .str x, .str y => some (!(Builtin.Str.occurrences y x 0 y.length 1).isEmpty)
  | .nin, .str x, .str y => some (!(!(Builtin.Str.occurrences y x 0 y.length 1).isEmpty))
  | .isin, x, .list ys => inD x ys
  | .isin, x, .tuple ys => inD x ys
  | .nin, x, .list ys => (inD x ys).map (!·)
  | .nin, x, .tuple ys => (inD x ys).map (!·)
  | _, _, _ => none
def bools : List PyData → Option (List Bool)
  | [] => some []
  | .bool b :: r => (bools r).map (b :: ·)
  | _ :: _ => none
def fnD : Blt → List PyData → Option Ov
  | .len, [.list xs] => some (.imm (.int xs.length))
  | .len, [.tuple xs] => some (.imm (.int xs.length))
  | .len, [.str x] => if x.length ≤ ll then some (.imm (.int x.length)) else none
  | .abs, [.int i] => some (.imm (.int (if i < 0 then -i else i)))
  | .int, [.int i] => some (.imm (.int i))
  | .max, [.int i, .int j] => some (.imm (.int (if j > i then j else i)))
  | .min, [.int i, .int j] => some (.imm (.int (if j < i then j else i)))
  | .all, [.list xs] => (bools xs).map fun bs => .imm (.bool (bs.all id))
  | .any, [.list xs] => (bools xs).map fun bs => .imm (.bool (bs.any id))
  | .list, [.list xs] => some (.own xs)
  | .list, [.tuple xs] => some (.own xs)
  | .tuple, [.list xs] => some (.imm (.tuple xs))
  | .tuple, [.tuple xs] => some (.imm (.tuple xs))
  | _, _ => none
def kindD : PyData → String
  | .none => "NoneType"
  | .bool _ => "bool"
  | .int _ => "int"
  | .str _ => "str"
  | .list _ => "list"
  | .tuple _ => "tuple"
  | .dict _ => "dict"
def isi1 (d : PyData) (t : String) : Bool := kindD d == t || (t == "int" && kindD d == "bool")
def isiD (d : PyData) (ts : List String) : Bool := ts.any (isi1 d)
def ixN (n : Nat) (i : Int) : Option Nat := if 0 ≤ i then (if i < n then some i.toNat else none) else if -(n : Int) ≤ i then some (i + n).toNat else none
def atD (xs : List PyData) (i : Int) : Option PyData := (ixN xs.length i).bind fun j => xs[j]?
def idxD : PyData → PyData → Option PyData
  | .list xs, .int i => atD xs i
  | .tuple xs, .int i => atD xs i
  | .str z, .int i => if z.length ≤ ll then ((ixN z.cps.toList.length i).bind fun j => z.cps.toList[j]?).map fun c => .str ⟨#[c]⟩ else none
  | _, _ => none
def cut {α : Type} (xs : List α) (lo hi : Option Int) : List α := (xs.drop (HT.sIx xs.length 0 lo)).take (HT.sIx xs.length xs.length hi - HT.sIx xs.length 0 lo)
def slcD : PyData → Option Int → Option Int → Option Ov
  | .list xs, lo, hi => some (.own (cut xs lo hi))
  | .tuple xs, lo, hi => some (.imm (.tuple (cut xs lo hi)))
  | _, _, _ => none
def truD : PyData → Option Bool
  | .none => some false
  | .bool b => some b
  | .int i => some (i != 0)
  | .str x => if x.length ≤ ll then some (x.length != 0) else none
  | .list xs => some (!xs.isEmpty)
  | .tuple xs => some (!xs.isEmpty)
  | .dict _ => none
def small (i : Int) : Bool := decide (-(2 ^ 62) ≤ i) && decide (i < 2 ^ 62)
def rngD (lo : Int) (n : Nat) : List PyData := (List.range n).map fun (k : Nat) => .int (lo + (k : Int))

inductive Out where
  | next | brk | cont
  | ret (o : Ov)

/-! ### the language -/
mutual
inductive IE where
  | lit (c : PyData)
  | glob (c : PyData)
  | var (i : Nat)
  | bin (op : BOp) (a b : IE)
  | neg (a : IE)
  | bt (t : IT)
  | ife (t : IT) (a b : IE)
  | tup (es : IEs)
  | lst (es : IEs)
  | idx (a i : IE)
  | idxv (x : Nat) (i : IE)
  | slc (a : IE) (lo hi : IO)
  | slcv (x : Nat) (lo hi : IO)
  | call (f : Nat) (args : IEs)
  | fn (b : Blt) (args : IEs)
  | fnv (b : Blt) (x : Nat)
  | isi (a : IE) (ts : List String)
  | isiv (x : Nat) (ts : List String)
  | pop (x : Nat)
  | popa (x : Nat) (i : IE)
  | lc (is : List Nat) (g : IG) (t : IT) (e : IE)
  | callk (f : Nat) (pm : List Nat) (args : IEs)
  | map1 (g : PyData → Option Ov) (e : IE)
  | nope
  | prim (g : Env → Option (Ov × Env))
inductive IEs where
  | nil
  | cons (e : IE) (es : IEs)
  | ref (x : Nat) (es : IEs)
inductive IO where
  | non
  | som (e : IE)
inductive IT where
  | tt
  | val (e : IE)
  | valv (x : Nat)
  | bv (e : IE)
  | cmp (op : COp) (a b : IE)
  | chain (o1 o2 : COp) (a b c : IE)
  | and (a b : IT)
  | or (a b : IT)
  | not (a : IT)
inductive IG where
  | seq (e : IE)
  | rng1 (e : IE)
  | rng2 (a b : IE)
  | enum (e : IE)
  | zip (a b : IE)
  | rev (e : IE)
end
mutual
inductive IS where
  | set (i : Nat) (e : IE)
  | par (is : List Nat) (es : IEs)
  | unp (is : List Nat) (e : IE)
  | put (x : Nat) (i e : IE)
  | aug (x : Nat) (op : BOp) (e : IE)
  | app (x : Nat) (e : IE)
  | ext (x : Nat) (e : IE)
  | ex (e : IE)
  | ite (t : IT) (a b : ISs)
  | whl (t : IT) (b : ISs)
  | loop (is : List Nat) (g : IG) (b : ISs)
  | ret (e : IE)
  | retv (x : Nat)
  | retN
  | pass
  | brk
  | cont
  | nope
  | prim (g : Env → Option (Out × Env))
inductive ISs where
  | nil
  | cons (s : IS) (ss : ISs)
end

def IEs.len : IEs → Nat
  | .nil => 0
  | .cons _ es => es.len + 1
  | .ref _ es => es.len + 1

/-- a call: the def's number, the arguments (own ones are handed to be changed), what comes back, what the changed ones hold -/
abbrev CS := Nat → List Ov → Option (Ov × List (List PyData))

/-! ### its meaning -/
def setAll : List Nat → List PyData → Env → Option Env
  | [], [], ρ => some ρ
  | i :: is, d :: ds, ρ => setAll is ds (setE ρ i (.imm d))
  | _, _, _ => none
def bindPat (is : List Nat) (d : PyData) (ρ : Env) : Option Env := match is, d with
  | [i], d => some (setE ρ i (.imm d))
  | is, .tuple ds => setAll is ds ρ
  | _, _ => none
/-- the slots of a comprehension: forgotten -/
def clrAll : List Nat → Env → Env
  | [], ρ => ρ
  | i :: is, ρ => clrE (clrAll is ρ) i
/-- behind a comprehension: plain data come back, own lists are forgotten -/
def backE (old : Env) : List Nat → Env → Env
  | [], ρ => ρ
  | i :: is, ρ => match getE old i with
    | some (.imm d) => setE (backE old is ρ) i (.imm d)
    | _ => clrE (backE old is ρ) i
def goFor (is : List Nat) (body : Env → Option (Out × Env)) : List PyData → Env → Option (Out × Env)
  | [], ρ => some (.next, ρ)
  | d :: ds, ρ => (bindPat is d ρ).bind fun ρ1 => (body ρ1).bind fun p => match p with
    | (.next, ρ2) => goFor is body ds ρ2
    | (.cont, ρ2) => goFor is body ds ρ2
    | (.brk, ρ2) => some (.next, ρ2)
    | (.ret v, ρ2) => some (.ret v, ρ2)
def goLc (is : List Nat) (test : Env → Option (Bool × Env)) (elt : Env → Option (Ov × Env)) : List PyData → Env → Option (List PyData × Env)
  | [], ρ => some ([], ρ)
  | d :: ds, ρ => (bindPat is d ρ).bind fun ρ1 => (test ρ1).bind fun p => match p with
    | (true, ρ2) => (elt ρ2).bind fun q => (goLc is test elt ds (clrAll is q.2)).map fun r => (q.1.d :: r.1, r.2)
    | (false, ρ2) => goLc is test elt ds (clrAll is ρ2)
def whl (test : Env → Option (Bool × Env)) (body : Env → Option (Out × Env)) (ρ : Env) : Option (Out × Env) := do
  let p ← test ρ
  if p.1 = true then do
    let q ← body p.2
    match q.1 with
    | .next => whl test body q.2
    | .cont => whl test body q.2
    | .brk => pure (.next, q.2)
    | .ret v => pure (.ret v, q.2)
  else pure (.next, p.2)
partial_fixpoint

/-- the arguments: data, or the slot of an own list -/
inductive Ar where
  | d (x : PyData)
  | r (x : Nat)
def arOv (ρ : Env) : Ar → Option Ov
  | .d x => some (.imm x)
  | .r x => (ownE ρ x).map Ov.own
def arAll (ρ : Env) : List Ar → Option (List Ov)
  | [] => some []
  | a :: r => (arOv ρ a).bind fun o => (arAll ρ r).map (o :: ·)
def refsA : List Ar → List Nat
  | [] => []
  | .d _ :: r => refsA r
  | .r x :: r => x :: refsA r
def putBack : List Nat → List (List PyData) → Env → Option Env
  | [], [], ρ => some ρ
  | x :: xs, l :: ls, ρ => putBack xs ls (setE ρ x (.own l))
  | _, _, _ => none
def asD : List Ar → Option (List PyData)
  | [] => some []
  | .d x :: r => (asD r).map (x :: ·)
  | .r _ :: _ => none
def intOf : PyData → Option Int
  | .int i => some i
  | _ => none
def boolOf : PyData → Option Bool
  | .bool b => some b
  | _ => none
def seqOf : PyData → Option (List PyData)
  | .list xs => some xs
  | .tuple xs => some xs
  | _ => none
def pairOf : PyData → PyData → Option (List PyData × List PyData)
  | .list xs, .list ys => some (xs, ys)
  | .tuple xs, .tuple ys => some (xs, ys)
  | _, _ => none
/-- what stands at these places -/
def permD (pm : List Nat) (ds : List PyData) : Option (List PyData) := match pm with
  | [] => some []
  | i :: pm => (ds[i]?).bind fun d => (permD pm ds).map (d :: ·)
/-- a text's signs -/
def charsOf : PyData → Option (List PyData)
  | .str z => if z.length ≤ ll then some (z.cps.toList.map fun c => .str ⟨#[c]⟩) else none
  | _ => none
def listOf : PyData → Option (List PyData)
  | .list xs => some xs
  | _ => none
def enumL (n : Nat) : List PyData → List PyData
  | [] => []
  | d :: ds => .tuple [.int (n : Int), d] :: enumL (n + 1) ds
def zipL : List PyData → List PyData → List PyData
  | x :: xs, y :: ys => .tuple [x, y] :: zipL xs ys
  | _, _ => []

mutual
def ev (cs : CS) : IE → Env → Option (Ov × Env)
  | .lit c, ρ => some (.imm c, ρ)
  | .glob c, ρ => some (.imm c, ρ)
  | .var i, ρ => (getE ρ i).map fun o => (.imm o.d, setE ρ i (.imm o.d))
  | .bin op a b, ρ => (ev cs a ρ).bind fun p => (ev cs b p.2).bind fun q => (binD op p.1.d q.1.d).map fun o => (o, q.2)
  | .map1 g a, ρ => (ev cs a ρ).bind fun p => (g p.1.d).map fun o => (o, p.2)
  | .neg a, ρ => (ev cs a ρ).bind fun p => (intOf p.1.d).map fun i => (.imm (.int (-i)), p.2)
  | .bt t, ρ => (evT cs t ρ).map fun p => (.imm (.bool p.1), p.2)
  | .ife t a b, ρ => (evT cs t ρ).bind fun p => match p.1 with
    | true => ev cs a p.2
    | false => ev cs b p.2
  | .tup es, ρ => (evs cs es ρ).bind fun p => (asD p.1).bind fun ds => if ds.length ≤ ll then some (.imm (.tuple ds), p.2) else none
  | .lst es, ρ => (evs cs es ρ).bind fun p => (asD p.1).bind fun ds => if ds.length ≤ ll then some (.own ds, p.2) else none
  | .idx a i, ρ => (ev cs a ρ).bind fun p => (ev cs i p.2).bind fun q => (idxD p.1.d q.1.d).map fun d => (.imm d, q.2)
  | .idxv x i, ρ => (getE ρ x).bind fun _ => (ev cs i ρ).bind fun q => (getE q.2 x).bind fun o => (idxD o.d q.1.d).map fun d => (.imm d, q.2)
  | .slc a lo hi, ρ => (ev cs a ρ).bind fun p => (evO cs lo p.2).bind fun q => (evO cs hi q.2).bind fun r => (slcD p.1.d q.1 r.1).map fun o => (o, r.2)
  | .slcv x lo hi, ρ => (getE ρ x).bind fun _ => (evO cs lo ρ).bind fun q => (evO cs hi q.2).bind fun r => (getE r.2 x).bind fun o => (slcD o.d q.1 r.1).map fun o => (o, r.2)
  | .call f args, ρ => (evs cs args ρ).bind fun p => (arAll p.2 p.1).bind fun os => if (refsA p.1).Nodup then (cs f os).bind fun r => (putBack (refsA p.1) r.2 p.2).map fun ρ2 => (r.1, ρ2) else none
  | .fn b args, ρ => (evs cs args ρ).bind fun p => (asD p.1).bind fun ds => (fnD b ds).map fun o => (o, p.2)
  | .fnv b x, ρ => (getE ρ x).bind fun o => (fnD b [o.d]).map fun r => (r, ρ)
  | .isi a ts, ρ => (ev cs a ρ).map fun p => (.imm (.bool (isiD p.1.d ts)), p.2)
  | .isiv x ts, ρ => (getE ρ x).map fun o => (.imm (.bool (isiD o.d ts)), ρ)
  | .pop x, ρ => match getE ρ x with
    | some (.own xs) => (xs[xs.length - 1]?).map fun d => (.imm d, setE ρ x (.own xs.dropLast))
    | _ => none
  | .popa x i, ρ => (ownE ρ x).bind fun _ => (ev cs i ρ).bind fun q => (intOf q.1.d).bind fun k => match getE q.2 x with
    | some (.own xs) => if small k then (ixN xs.length k).bind fun j => (xs[j]?).map fun d => (.imm d, setE q.2 x (.own (xs.eraseIdx j))) else none
    | _ => none
  | .lc is g t e, ρ => (evG cs g ρ).bind fun p => (goLc is (evT cs t) (ev cs e) p.1 (clrAll is p.2)).map fun r => (.own r.1, backE p.2 is r.2)
  | .callk f pm args, ρ => (evs cs args ρ).bind fun p => (asD p.1).bind fun ds => (permD pm ds).bind fun es => (cs f (es.map Ov.imm)).bind fun r => if r.2 = [] then some (r.1, p.2) else none
  | .nope, _ => none
  | .prim g, ρ => g ρ
def evs (cs : CS) : IEs → Env → Option (List Ar × Env)
  | .nil, ρ => some ([], ρ)
  | .cons e es, ρ => (ev cs e ρ).bind fun p => (evs cs es p.2).map fun q => (.d p.1.d :: q.1, q.2)
  | .ref x es, ρ => (getE ρ x).bind fun _ => (evs cs es ρ).map fun q => (.r x :: q.1, q.2)
def evO (cs : CS) : IO → Env → Option (Option Int × Env)
  | .non, ρ => some (none, ρ)
  | .som e, ρ => (ev cs e ρ).bind fun p => (intOf p.1.d).map fun i => (some i, p.2)
def evT (cs : CS) : IT → Env → Option (Bool × Env)
  | .tt, ρ => some (true, ρ)
  | .val e, ρ => (ev cs e ρ).bind fun p => (truD p.1.d).map fun b => (b, p.2)
  | .valv x, ρ => (getE ρ x).bind fun o => (truD o.d).map fun b => (b, ρ)
  | .bv e, ρ => (ev cs e ρ).bind fun p => (boolOf p.1.d).map fun b => (b, p.2)
  | .cmp op a b, ρ => (ev cs a ρ).bind fun p => (ev cs b p.2).bind fun q => (cmpD op p.1.d q.1.d).map fun k => (k, q.2)
  | .chain o1 o2 a b c, ρ => (ev cs a ρ).bind fun p => (ev cs b p.2).bind fun q => (cmpD o1 p.1.d q.1.d).bind fun k => match k with
    | true => (ev cs c q.2).bind fun r => (cmpD o2 q.1.d r.1.d).map fun k => (k, r.2)
    | false => some (false, q.2)
  | .and a b, ρ => (evT cs a ρ).bind fun p => match p.1 with
    | true => evT cs b p.2
    | false => some (false, p.2)
  | .or a b, ρ => (evT cs a ρ).bind fun p => match p.1 with
    | true => some (true, p.2)
    | false => evT cs b p.2
  | .not a, ρ => (evT cs a ρ).map fun p => (!p.1, p.2)
def evG (cs : CS) : IG → Env → Option (List PyData × Env)
  | .seq e, ρ => (ev cs e ρ).bind fun p => ((seqOf p.1.d).or (charsOf p.1.d)).map fun xs => (xs, p.2)
  | .rng1 e, ρ => (ev cs e ρ).bind fun p => (intOf p.1.d).bind fun k => if small k && decide (k ≤ ll) then some (rngD 0 k.toNat, p.2) else none
  | .rng2 a b, ρ => (ev cs a ρ).bind fun p => (ev cs b p.2).bind fun q => (intOf p.1.d).bind fun i => (intOf q.1.d).bind fun j => if small i && small j && decide (j - i ≤ ll) then some (rngD i (j - i).toNat, q.2) else none
  | .enum e, ρ => (ev cs e ρ).bind fun p => (seqOf p.1.d).map fun xs => (enumL 0 xs, p.2)
  | .zip a b, ρ => (ev cs a ρ).bind fun p => (ev cs b p.2).bind fun q => (pairOf p.1.d q.1.d).map fun r => (zipL r.1 r.2, q.2)
  | .rev e, ρ => (ev cs e ρ).bind fun p => (seqOf p.1.d).map fun xs => (xs.reverse, p.2)
end
mutual
def evS (cs : CS) : IS → Env → Option (Out × Env)
  | .set i e, ρ => (ev cs e ρ).map fun p => (.next, setE p.2 i p.1)
  | .par is es, ρ => (evs cs es ρ).bind fun p => (asD p.1).bind fun ds => (setAll is ds p.2).map fun ρ2 => (.next, ρ2)
  | .unp is e, ρ => (ev cs e ρ).bind fun p => match p.1.d with
    | .tuple ds => (setAll is ds p.2).map fun ρ2 => (.next, ρ2)
    | _ => none
  | .put x i e, ρ => (ev cs e ρ).bind fun p => (getE p.2 x).bind fun _ => (ev cs i p.2).bind fun q => (intOf q.1.d).bind fun k => match getE q.2 x with
    | some (.own xs) => (ixN xs.length k).map fun j => (.next, setE q.2 x (.own (xs.set j p.1.d)))
    | _ => none
  | .aug x op e, ρ => (getE ρ x).bind fun o => (intOf o.d).bind fun i => (ev cs e ρ).bind fun p => (intOf p.1.d).bind fun j => (match op with
    | .add => some (i + j)
    | .sub => some (i - j)
    | _ => none).map fun k => (.next, setE p.2 x (.imm (.int k)))
  | .app x e, ρ => (ownE ρ x).bind fun _ => (ev cs e ρ).bind fun p => match getE p.2 x with
    | some (.own xs) => if xs.length < ll then some (.next, setE p.2 x (.own (xs ++ [p.1.d]))) else none
    | _ => none
  | .ext x e, ρ => (ownE ρ x).bind fun _ => (ev cs e ρ).bind fun p => (listOf p.1.d).bind fun ys => match getE p.2 x with
    | some (.own xs) => if xs.length + ys.length ≤ ll then some (.next, setE p.2 x (.own (xs ++ ys))) else none
    | _ => none
  | .ex e, ρ => (ev cs e ρ).map fun p => (.next, p.2)
  | .ite t a b, ρ => (evT cs t ρ).bind fun p => match p.1 with
    | true => evSs cs a p.2
    | false => evSs cs b p.2
  | .whl t b, ρ => whl (evT cs t) (evSs cs b) ρ
  | .loop is g b, ρ => (evG cs g ρ).bind fun p => goFor is (evSs cs b) p.1 p.2
  | .ret e, ρ => (ev cs e ρ).map fun p => (.ret p.1, p.2)
  | .retv x, ρ => (getE ρ x).map fun o => (.ret o, clrE ρ x)
  | .retN, ρ => some (.ret (.imm .none), ρ)
  | .pass, ρ => some (.next, ρ)
  | .brk, ρ => some (.brk, ρ)
  | .cont, ρ => some (.cont, ρ)
  | .nope, _ => none
  | .prim g, ρ => g ρ
def evSs (cs : CS) : ISs → Env → Option (Out × Env)
  | .nil, ρ => some (.next, ρ)
  | .cons s ss, ρ => (evS cs s ρ).bind fun p => match p with
    | (.next, ρ1) => evSs cs ss ρ1
    | (.brk, ρ1) => some (.brk, ρ1)
    | (.cont, ρ1) => some (.cont, ρ1)
    | (.ret v, ρ1) => some (.ret v, ρ1)
end

/-! ### defs -/
structure FD where
  np : Nat
  ns : Nat
  io : List Nat
  body : ISs
inductive FX where
  | code (d : FD)
  | ext (k : Nat) (g : List Ov → Option (Ov × List (List PyData)))
def Ov.isOwn : Ov → Bool
  | .own _ => true
  | _ => false
def ownsF : Nat → List Ov → List Nat
  | _, [] => []
  | k, .own _ :: os => k :: ownsF (k + 1) os
  | k, .imm _ :: os => ownsF (k + 1) os
def owns (os : List Ov) : List Nat := ownsF 0 os
def outs : List Nat → Env → Option (List (List PyData))
  | [], _ => some []
  | i :: is, ρ => match getE ρ i with
    | some (.own xs) => (outs is ρ).map (xs :: ·)
    | _ => none
def start0 (d : FD) (os : List Ov) : Env := os.map some ++ List.replicate (d.ns - os.length) none
def callN (Φ : Nat → Option FX) : Nat → CS
  | 0, _, _ => none
  | n + 1, f, os => match Φ f with
    | some (.code d) => if os.length = d.np ∧ owns os = d.io then (evSs (callN Φ n) d.body (start0 d os)).bind fun p => match p with
        | (.ret o, ρ) => (outs d.io ρ).map fun l => (o, l)
        | (.next, ρ) => (outs d.io ρ).map fun l => (.imm .none, l)
        | _ => none
      else none
    | some (.ext k g) => if k ≤ n + 1 then g os else none
    | none => none
end Ev
set_option Elab.async false
set_option linter.all false
set_option maxRecDepth 100000
/-! Ev2: what the evaluator's data mean in the abstract heap; its judgements over HandS. -/
namespace Ev
open PySem PySem.Spec PyProof.Rows L2
abbrev Frag := PySem.W.Frag

def keyD : Key → PyData
  | .inl i => .int i
  | .inr x => .str x
mutual
/-- the value v stands for these data in the heap F -/
inductive Dn (K : Frag) (F : Hp) : V → PyData → Prop
  | non : Dn K F .non .none
  | bl (b : Bool) : Dn K F (.bl b) (.bool b)
  | int (i : Int) : Dn K F (.int i) (.int i)
  | str (x : Str) : Dn K F (.str x) (.str x)
  | lst {a : Addr} {vs : List V} {ds : List PyData} : F a = some (.lst vs) → DnA K F vs ds → Dn K F (.ref a) (.list ds)
  | tup {a : Addr} {vs : List V} {ds : List PyData} : SqT K F a vs → DnA K F vs ds → Dn K F (.ref a) (.tuple ds)
  | dct {a : Addr} {kvs : List (Key × V)} {ds : List (Key × PyData)} {es : List (PyData × PyData)} : F a = some (.dK kvs) → DnK K F kvs ds → es = ds.map (fun p => (keyD p.1, p.2)) → Dn K F (.ref a) (.dict es)
inductive DnA (K : Frag) (F : Hp) : List V → List PyData → Prop
  | nil : DnA K F [] []
  | cons {v : V} {vs : List V} {d : PyData} {ds : List PyData} : Dn K F v d → DnA K F vs ds → DnA K F (v :: vs) (d :: ds)
inductive DnK (K : Frag) (F : Hp) : List (Key × V) → List (Key × PyData) → Prop
  | nil : DnK K F [] []
  | cons {k : Key} {v : V} {vs : List (Key × V)} {d : PyData} {ds : List (Key × PyData)} : Dn K F v d → DnK K F vs ds → DnK K F ((k, v) :: vs) ((k, d) :: ds)
end
theorem sqT_same {K : Frag} {H H' : Hp} {a : Addr} {xs : List V} (e : Same H H') (h : SqT K H a xs) : SqT K H' a xs := by
  rcases h with (h | ⟨o, h⟩) | h
  · exact .inl (.inl (e _ _ h))
  · exact .inl (.inr ⟨o, e _ _ h⟩)
  · exact .inr h
mutual
theorem Dn.mono {K : Frag} {F F' : Hp} (s : Same F F') : ∀ {v : V} {d : PyData}, Dn K F v d → Dn K F' v d
  | _, _, .non => .non
  | _, _, .bl b => .bl b
  | _, _, .int i => .int i
  | _, _, .str x => .str x
  | _, _, .lst h q => .lst (s _ _ h) (DnA.mono s q)
  | _, _, .tup h q => .tup (sqT_same s h) (DnA.mono s q)
  | _, _, .dct h q e => .dct (s _ _ h) (DnK.mono s q) e
theorem DnA.mono {K : Frag} {F F' : Hp} (s : Same F F') : ∀ {vs : List V} {ds : List PyData}, DnA K F vs ds → DnA K F' vs ds
  | _, _, .nil => .nil
  | _, _, .cons h q => .cons (Dn.mono s h) (DnA.mono s q)
theorem DnK.mono {K : Frag} {F F' : Hp} (s : Same F F') : ∀ {vs : List (Key × V)} {ds : List (Key × PyData)}, DnK K F vs ds → DnK K F' vs ds
  | _, _, .nil => .nil
  | _, _, .cons h q => .cons (Dn.mono s h) (DnK.mono s q)
end
section
variable {K : Frag} {F : Hp}
theorem DnA.len : ∀ {vs : List V} {ds : List PyData}, DnA K F vs ds → vs.length = ds.length
  | _, _, .nil => rfl
  | _, _, .cons _ q => by simp [q.len]
theorem DnA.get : ∀ {vs : List V} {ds : List PyData} {i : Nat} {d : PyData}, DnA K F vs ds → ds[i]? = some d → ∃ v, vs[i]? = some v ∧ Dn K F v d
  | _, _, i, d, .nil, e => by simp at e
  | _, _, 0, d, .cons h _, e => by simp at e; subst e; exact ⟨_, rfl, h⟩
  | _, _, i + 1, d, .cons _ q, e => by
    obtain ⟨v, h1, h2⟩ := q.get (i := i) (d := d) (by simpa using e)
    exact ⟨v, by simpa using h1, h2⟩
theorem DnA.get' : ∀ {vs : List V} {ds : List PyData} {i : Nat} {v : V}, DnA K F vs ds → vs[i]? = some v → ∃ d, ds[i]? = some d ∧ Dn K F v d
  | _, _, i, d, .nil, e => by simp at e
  | _, _, 0, d, .cons h _, e => by simp at e; subst e; exact ⟨_, rfl, h⟩
  | _, _, i + 1, d, .cons _ q, e => by
    obtain ⟨v, h1, h2⟩ := q.get' (i := i) (v := d) (by simpa using e)
    exact ⟨v, by simpa using h1, h2⟩
theorem DnA.app : ∀ {vs ws : List V} {ds es : List PyData}, DnA K F vs ds → DnA K F ws es → DnA K F (vs ++ ws) (ds ++ es)
  | _, _, _, _, .nil, h => h
  | _, _, _, _, .cons a q, h => .cons a (q.app h)
theorem DnA.set {v : V} {d : PyData} (h : Dn K F v d) : ∀ {vs : List V} {ds : List PyData} (i : Nat), DnA K F vs ds → DnA K F (vs.set i v) (ds.set i d)
  | _, _, _, .nil => .nil
  | _, _, 0, .cons _ q => .cons h q
  | _, _, i + 1, .cons a q => .cons a (q.set h i)
theorem DnA.take : ∀ {vs : List V} {ds : List PyData} (n : Nat), DnA K F vs ds → DnA K F (vs.take n) (ds.take n)
  | _, _, 0, _ => .nil
  | _, _, _ + 1, .nil => .nil
  | _, _, n + 1, .cons a q => .cons a (q.take n)
theorem DnA.drop : ∀ {vs : List V} {ds : List PyData} (n : Nat), DnA K F vs ds → DnA K F (vs.drop n) (ds.drop n)
  | _, _, 0, q => q
  | _, _, _ + 1, .nil => .nil
  | _, _, n + 1, .cons _ q => q.drop n
theorem DnA.dropLast {vs : List V} {ds : List PyData} (h : DnA K F vs ds) : DnA K F vs.dropLast ds.dropLast := by
  rw [List.dropLast_eq_take, List.dropLast_eq_take, h.len]
  exact h.take _
theorem DnA.erase : ∀ {vs : List V} {ds : List PyData} (i : Nat), DnA K F vs ds → DnA K F (vs.eraseIdx i) (ds.eraseIdx i)
  | _, _, _, .nil => .nil
  | _, _, 0, .cons _ q => q
  | _, _, i + 1, .cons a q => .cons a (q.erase i)
theorem DnA.flat : ∀ (n : Nat) {vs : List V} {ds : List PyData}, DnA K F vs ds → DnA K F (List.replicate n vs).flatten (List.replicate n ds).flatten
  | 0, _, _, _ => .nil
  | n + 1, vs, ds, h => by
    rw [List.replicate_succ, List.replicate_succ, List.flatten_cons, List.flatten_cons]
    exact h.app (h.flat n)
theorem DnA.rev : ∀ {vs : List V} {ds : List PyData}, DnA K F vs ds → DnA K F vs.reverse ds.reverse
  | _, _, .nil => .nil
  | _, _, .cons h q => by
    rw [List.reverse_cons, List.reverse_cons]
    exact q.rev.app (.cons h .nil)
theorem DnA.one {v : V} {d : PyData} (h : Dn K F v d) : DnA K F [v] [d] := .cons h .nil
/-- no dict within: the library's own relation -/
theorem Dn.dp : ∀ {v : V} {d : PyData}, Dn K F v d → d.canLay0 = true → Dp K F v d := by
  intro v d h
  refine Dn.rec (motive_1 := fun v d _ => d.canLay0 = true → Dp K F v d) (motive_2 := fun vs ds _ => PyData.canLayAll0 ds = true → DpAll K F vs ds) (motive_3 := fun _ _ _ => True) ?_ ?_ ?_ ?_ ?_ ?_ ?_ ?_ ?_ ?_ ?_ h
  · exact fun _ => .non
  · exact fun b _ => .bl b
  · exact fun i _ => .int i
  · exact fun x _ => .str x
  · exact fun hs _ ih c => .lst (SqL.of hs) (ih (by simpa [PyData.canLay0] using c))
  · exact fun hs _ ih c => .tup hs (ih (by simpa [PyData.canLay0] using c))
  · exact fun _ _ _ _ c => by simp [PyData.canLay0] at c
  · exact fun _ => .nil
  · intro v vs d ds _ _ i1 i2 c
    have c' : d.canLay0 = true ∧ PyData.canLayAll0 ds = true := by simpa [PyData.canLayAll0] using c
    exact .cons (i1 c'.1) (i2 c'.2)
  · trivial
  · intros; trivial
end
theorem dp_mono {K : Frag} {F F' : Hp} (s : Same F F') : ∀ {v : V} {d : PyData}, Dp K F v d → Dp K F' v d := by
  intro v d h
  refine Dp.rec (motive_1 := fun v d _ => Dp K F' v d) (motive_2 := fun vs ds _ => DpAll K F' vs ds) ?_ ?_ ?_ ?_ ?_ ?_ ?_ ?_ h
  · exact .non
  · exact .bl
  · exact .int
  · exact .str
  · exact fun hs _ ih => .lst (s.seq hs) ih
  · exact fun hs _ ih => .tup (sqT_same s hs) ih
  · exact .nil
  · exact fun _ _ i1 i2 => .cons i1 i2

/-! ### the state -/
/-- the list at a is the def's own -/
def Own (K : Frag) (G F H : Hp) (a : Addr) (xs : List PyData) : Prop := G a = none ∧ F a = none ∧ ∃ vs, H a = some (.lst vs) ∧ DnA K F vs xs
/-- G: what the def may not change; F: what is data; A: the slots of the arguments that are changed -/
structure Rel (K : Frag) (A : List (Nat × Addr)) (G F H : Hp) (σ : L2.St) (ρ : Env) : Prop where
  frm : Same G H
  sub : Same F H
  imm : ∀ i d, getE ρ i = some (.imm d) → ∃ v, σ[i]? = some (some v) ∧ Dn K F v d
  own : ∀ i xs, getE ρ i = some (.own xs) → ∃ a, σ[i]? = some (some (.ref a)) ∧ Own K G F H a xs
  dis : ∀ i j xs ys a, getE ρ i = some (.own xs) → getE ρ j = some (.own ys) → σ[i]? = some (some (.ref a)) → σ[j]? = some (some (.ref a)) → i = j
  pin : ∀ p ∈ A, σ[p.1]? = some (some (.ref p.2))
  len : ρ.length = σ.length
structure Ext (G F F' : Hp) : Prop where
  le : Same F F'
  new : ∀ b, F b = none → G b ≠ none → F' b = none
theorem Ext.refl {G F : Hp} : Ext G F F := ⟨.refl _, fun _ h _ => h⟩
theorem Ext.trans {G F F1 F2 : Hp} (a : Ext G F F1) (b : Ext G F1 F2) : Ext G F F2 := ⟨a.le.trans b.le, fun c h g => b.new c (a.new c h g) g⟩
/-- a result -/
def DnO (K : Frag) (G F H : Hp) (σ : L2.St) (ρ : Env) (v : V) : Ov → Prop
  | .imm d => Dn K F v d
  | .own xs => ∃ a, v = .ref a ∧ Own K G F H a xs ∧ ∀ i ys, getE ρ i = some (.own ys) → σ[i]? ≠ some (some (.ref a))
def Post (K : Frag) (A : List (Nat × Addr)) (G F : Hp) (σ : L2.St) (ρ : Env) (o : Ov) : VK := fun v H' => ∃ F', Ext G F F' ∧ Rel K A G F' H' σ ρ ∧ DnO K G F' H' σ ρ v o
def PostD (K : Frag) (A : List (Nat × Addr)) (G F : Hp) (σ : L2.St) (ρ : Env) (d : PyData) : VK := fun v H' => ∃ F', Ext G F F' ∧ Rel K A G F' H' σ ρ ∧ Dn K F' v d

/-! ### env -/
theorem getE_set {ρ : Env} {i j : Nat} {o : Ov} : getE (setE ρ i o) j = if i = j ∧ i < ρ.length then some o else getE ρ j := by
  unfold getE setE
  by_cases h : i = j
  · subst h
    by_cases hl : i < ρ.length
    · simp [hl]
    · simp [hl]
  · simp [h]
theorem getE_clr {ρ : Env} {i j : Nat} : getE (clrE ρ i) j = if i = j then none else getE ρ j := by
  unfold getE clrE
  by_cases h : i = j
  · subst h
    by_cases hl : i < ρ.length
    · simp [hl]
    · simp [hl]
  · simp [h]
theorem getE_lt {ρ : Env} {i : Nat} {o : Ov} (h : getE ρ i = some o) : i < ρ.length := by
  unfold getE at h
  cases e : ρ[i]? with
  | none => rw [e] at h; cases h
  | some x => exact (List.getElem?_eq_some_iff.mp e).1
theorem setE_len {ρ : Env} {i : Nat} {o : Ov} : (setE ρ i o).length = ρ.length := by simp [setE]
theorem clrE_len {ρ : Env} {i : Nat} : (clrE ρ i).length = ρ.length := by simp [clrE]
theorem clrAll_len : ∀ (is : List Nat) (ρ : Env), (clrAll is ρ).length = ρ.length
  | [], _ => rfl
  | i :: is, ρ => by unfold clrAll; rw [clrE_len, clrAll_len is ρ]
theorem getE_clrAll : ∀ (is : List Nat) (ρ : Env) (j : Nat), getE (clrAll is ρ) j = if j ∈ is then none else getE ρ j
  | [], _, _ => by simp [clrAll]
  | i :: is, ρ, j => by
    unfold clrAll
    rw [getE_clr, getE_clrAll is ρ j]
    by_cases h : i = j
    · simp [h]
    · have h' : ¬ j = i := fun e => h e.symm
      simp [h, h']

section
variable {K : Frag} {A : List (Nat × Addr)} {G F H : Hp} {σ : L2.St} {ρ : Env}
theorem Own.grow {a : Addr} {xs : List PyData} {H' : Hp} (o : Own K G F H a xs) (s : Same H H') : Own K G F H' a xs :=
  let ⟨g, f, vs, h, d⟩ := o; ⟨g, f, vs, s _ _ h, d⟩
theorem Own.ne {a b : Addr} {xs : List PyData} (o : Own K G F H a xs) (h : H b = none) : a ≠ b := by
  obtain ⟨_, _, vs, e, _⟩ := o
  exact ne_of_none e h
theorem Rel.grow {H' : Hp} (R : Rel K A G F H σ ρ) (s : Same H H') : Rel K A G F H' σ ρ :=
  ⟨R.frm.trans s, R.sub.trans s, R.imm, fun i xs e => let ⟨a, h, o⟩ := R.own i xs e; ⟨a, h, o.grow s⟩, R.dis, R.pin, R.len⟩
theorem DnO.grow {v : V} {o : Ov} {H' : Hp} (h : DnO K G F H σ ρ v o) (s : Same H H') : DnO K G F H' σ ρ v o := by
  cases o with
  | imm d => exact h
  | own xs =>
    obtain ⟨a, e, o, n⟩ := h
    exact ⟨a, e, o.grow s, n⟩
/-- data wider -/
theorem Rel.wide {F' : Hp} (R : Rel K A G F H σ ρ) (e : Same F F') (s : Same F' H) (n : ∀ i xs a, getE ρ i = some (.own xs) → σ[i]? = some (some (.ref a)) → F' a = none) : Rel K A G F' H σ ρ :=
  ⟨R.frm, s, fun i d h => let ⟨v, h1, h2⟩ := R.imm i d h; ⟨v, h1, h2.mono e⟩, fun i xs h => let ⟨a, h1, g, f, vs, h2, d⟩ := R.own i xs h; ⟨a, h1, g, n i xs a h h1, vs, h2, d.mono e⟩, R.dis, R.pin, R.len⟩
theorem same_upd {H : Hp} {p : Addr} {o : HO} (h : H p = none) : Same H (upd H p o) := fun b x e => by
  rw [upd_ne (ne_of_none e h)]
  exact e
/-- an own list, not held by a slot, becomes data -/
theorem Rel.freeze {a : Addr} {xs : List PyData} (R : Rel K A G F H σ ρ) (o : Own K G F H a xs) (n : ∀ i ys, getE ρ i = some (.own ys) → σ[i]? ≠ some (some (.ref a))) :
    ∃ F', Ext G F F' ∧ Rel K A G F' H σ ρ ∧ Dn K F' (.ref a) (.list xs) := by
  obtain ⟨g, f, vs, h, d⟩ := o
  have e : Same F (upd F a (.lst vs)) := same_upd f
  refine ⟨upd F a (.lst vs), ⟨e, fun b hb gb => ?_⟩, R.wide e (fun b x q => ?_) fun i ys b hi hb => ?_, .lst upd_same (d.mono e)⟩
  · have : b ≠ a := fun z => gb (by rw [z]; exact g)
    rw [upd_ne this]; exact hb
  · by_cases z : b = a
    · subst z; rw [upd_same] at q; cases q; exact h
    · rw [upd_ne z] at q; exact R.sub _ _ q
  · have z : b ≠ a := fun z => n i ys hi (by rw [← z]; exact hb)
    rw [upd_ne z]
    obtain ⟨b', h1, _, f', _⟩ := R.own i ys hi
    rw [hb] at h1; cases h1
    exact f'
/-- a result as data -/
theorem Post.toD {o : Ov} {v : V} {H' : Hp} (h : Post K A G F σ ρ o v H') : PostD K A G F σ ρ o.d v H' := by
  obtain ⟨F', x, R, d⟩ := h
  cases o with
  | imm d' => exact ⟨F', x, R, d⟩
  | own xs =>
    obtain ⟨a, rfl, o, n⟩ := d
    obtain ⟨F2, x2, R2, d2⟩ := R.freeze o n
    exact ⟨F2, x.trans x2, R2, d2⟩
theorem PostD.toO {d : PyData} {v : V} {H' : Hp} (h : PostD K A G F σ ρ d v H') : Post K A G F σ ρ (.imm d) v H' := h
theorem Post.ext {F1 : Hp} {o : Ov} {v : V} {H' : Hp} (x : Ext G F F1) (h : Post K A G F1 σ ρ o v H') : Post K A G F σ ρ o v H' := by
  obtain ⟨F', y, R, d⟩ := h
  exact ⟨F', x.trans y, R, d⟩
/-- the slot of an own list: forgotten -/
theorem Rel.clr (R : Rel K A G F H σ ρ) (i : Nat) : Rel K A G F H σ (clrE ρ i) := by
  have g : ∀ j o, getE (clrE ρ i) j = some o → getE ρ j = some o := fun j o h => by
    rw [getE_clr] at h
    split at h
    · cases h
    · exact h
  exact ⟨R.frm, R.sub, fun j d h => R.imm j d (g _ _ h), fun j xs h => R.own j xs (g _ _ h), fun j k xs ys a h1 h2 => R.dis j k xs ys a (g _ _ h1) (g _ _ h2), R.pin, by rw [clrE_len]; exact R.len⟩
/-- a slot told anew: data -/
theorem Rel.setI {i : Nat} {d : PyData} {v : V} (R : Rel K A G F H σ ρ) (h : Dn K F v d) (hv : σ[i]? = some (some v)) : Rel K A G F H σ (setE ρ i (.imm d)) := by
  have g : ∀ j xs, getE (setE ρ i (.imm d)) j = some (.own xs) → getE ρ j = some (.own xs) := fun j xs h => by
    rw [getE_set] at h
    split at h
    · cases h
    · exact h
  refine ⟨R.frm, R.sub, fun j e q => ?_, fun j xs h => R.own j xs (g _ _ h), fun j k xs ys a h1 h2 => R.dis j k xs ys a (g _ _ h1) (g _ _ h2), R.pin, by rw [setE_len]; exact R.len⟩
  rw [getE_set] at q
  split at q
  · rename_i z
    cases q
    rw [← z.1]
    exact ⟨v, hv, h⟩
  · exact R.imm j e q
/-- a name is stored: data -/
theorem Rel.store {i : Nat} {d : PyData} {v : V} (R : Rel K A G F H σ ρ) (h : Dn K F v d) (hA : ∀ p ∈ A, p.1 ≠ i) : Rel K A G F H (σ.set i (some v)) (setE ρ i (.imm d)) := by
  have g : ∀ j xs, getE (setE ρ i (.imm d)) j = some (.own xs) → i ≠ j ∧ getE ρ j = some (.own xs) := fun j xs h => by
    rw [getE_set] at h
    split at h
    · cases h
    · rename_i z
      refine ⟨fun e => z ⟨e, ?_⟩, h⟩
      rw [e]; exact getE_lt h
  refine ⟨R.frm, R.sub, fun j e q => ?_, fun j xs h => ?_, fun j k xs ys a h1 h2 e1 e2 => ?_, fun p hp => ?_, by rw [setE_len, List.length_set]; exact R.len⟩
  · rw [getE_set] at q
    split at q
    · rename_i z
      cases q
      rw [← z.1, List.getElem?_set_self (by rw [← R.len]; exact z.2)]
      exact ⟨v, rfl, h⟩
    · rename_i z
      have hn : i ≠ j := fun e => z ⟨e, by rw [e]; exact getE_lt q⟩
      rw [List.getElem?_set_ne hn]
      exact R.imm j e q
  · obtain ⟨hn, h⟩ := g j xs h
    rw [List.getElem?_set_ne hn]
    exact R.own j xs h
  · obtain ⟨n1, h1⟩ := g j xs h1
    obtain ⟨n2, h2⟩ := g k ys h2
    rw [List.getElem?_set_ne n1] at e1
    rw [List.getElem?_set_ne n2] at e2
    exact R.dis j k xs ys a h1 h2 e1 e2
  · rw [List.getElem?_set_ne (hA p hp).symm]
    exact R.pin p hp
/-- .. an own list -/
theorem Rel.storeO {i : Nat} {xs : List PyData} {a : Addr} (R : Rel K A G F H σ ρ) (h : Own K G F H a xs) (n : ∀ i ys, getE ρ i = some (.own ys) → σ[i]? ≠ some (some (.ref a))) (hA : ∀ p ∈ A, p.1 ≠ i) :
    Rel K A G F H (σ.set i (some (.ref a))) (setE ρ i (.own xs)) := by
  have g : ∀ j ys, getE (setE ρ i (.own xs)) j = some (.own ys) → (i = j ∧ i < ρ.length ∧ ys = xs) ∨ (i ≠ j ∧ getE ρ j = some (.own ys)) := fun j ys h => by
    rw [getE_set] at h
    split at h
    · rename_i z
      cases h
      exact .inl ⟨z.1, z.2, rfl⟩
    · rename_i z
      refine .inr ⟨fun e => z ⟨e, ?_⟩, h⟩
      rw [e]; exact getE_lt h
  refine ⟨R.frm, R.sub, fun j e q => ?_, fun j ys h' => ?_, fun j k xs ys b h1 h2 e1 e2 => ?_, fun p hp => ?_, by rw [setE_len, List.length_set]; exact R.len⟩
  · rw [getE_set] at q
    split at q
    · cases q
    · rename_i z
      have hn : i ≠ j := fun e => z ⟨e, by rw [e]; exact getE_lt q⟩
      rw [List.getElem?_set_ne hn]
      exact R.imm j e q
  · rcases g j ys h' with ⟨rfl, hl, rfl⟩ | ⟨hn, h'⟩
    · rw [List.getElem?_set_self (by rw [← R.len]; exact hl)]
      exact ⟨a, rfl, h⟩
    · rw [List.getElem?_set_ne hn]
      exact R.own j ys h'
  · rcases g j _ h1 with ⟨rfl, hl, rfl⟩ | ⟨hn, p1⟩
    · rw [List.getElem?_set_self (by rw [← R.len]; exact hl)] at e1
      cases e1
      rcases g k _ h2 with ⟨rfl, _, _⟩ | ⟨hn2, p2⟩
      · rfl
      · rw [List.getElem?_set_ne hn2] at e2
        exact absurd e2 (n k _ p2)
    · rw [List.getElem?_set_ne hn] at e1
      rcases g k _ h2 with ⟨rfl, hl, rfl⟩ | ⟨hn2, p2⟩
      · rw [List.getElem?_set_self (by rw [← R.len]; exact hl)] at e2
        cases e2
        exact absurd e1 (n j _ p1)
      · rw [List.getElem?_set_ne hn2] at e2
        exact R.dis j k _ _ b p1 p2 e1 e2
  · rw [List.getElem?_set_ne (hA p hp).symm]
    exact R.pin p hp
/-- the own list of a slot is written -/
theorem Rel.write {i : Nat} {xs ys : List PyData} {vs ws : List V} {a : Addr} (R : Rel K A G F H σ ρ) (h : getE ρ i = some (.own xs)) (hv : σ[i]? = some (some (.ref a))) (hl : H a = some (.lst vs)) (d : DnA K F ws ys) :
    Rel K A G F (upd H a (.lst ws)) σ (setE ρ i (.own ys)) := by
  obtain ⟨a', e, g, f, _⟩ := R.own i xs h
  rw [hv] at e; cases e
  have s : ∀ T : Hp, T a = none → Same T H → Same T (upd H a (.lst ws)) := fun T t s b o q => by
    have z : b ≠ a := fun z => by rw [z, t] at q; cases q
    rw [upd_ne z]
    exact s b o q
  have gg : ∀ j zs, getE (setE ρ i (.own ys)) j = some (.own zs) → (i = j ∧ zs = ys) ∨ (i ≠ j ∧ getE ρ j = some (.own zs)) := fun j zs h => by
    rw [getE_set] at h
    split at h
    · rename_i z
      cases h
      exact .inl ⟨z.1, rfl⟩
    · rename_i z
      refine .inr ⟨fun e => z ⟨e, ?_⟩, h⟩
      rw [e]; exact getE_lt h
  refine ⟨s G g R.frm, s F f R.sub, fun j e q => ?_, fun j zs q => ?_, fun j k us zs b h1 h2 e1 e2 => ?_, R.pin, by rw [setE_len]; exact R.len⟩
  · rw [getE_set] at q
    split at q
    · cases q
    · exact R.imm j e q
  · rcases gg j zs q with ⟨rfl, rfl⟩ | ⟨hn, q⟩
    · exact ⟨a, hv, g, f, ws, upd_same, d⟩
    · obtain ⟨b, e1, g1, f1, us, e2, d2⟩ := R.own j zs q
      refine ⟨b, e1, g1, f1, us, ?_, d2⟩
      have z : b ≠ a := fun z => hn (R.dis i j xs zs a h q hv (by rw [← z]; exact e1))
      rw [upd_ne z]; exact e2
  · have o1 : ∃ us, getE ρ j = some (.own us) := by
      rcases gg j _ h1 with ⟨rfl, _⟩ | ⟨_, q⟩
      · exact ⟨_, h⟩
      · exact ⟨_, q⟩
    have o2 : ∃ us, getE ρ k = some (.own us) := by
      rcases gg k _ h2 with ⟨rfl, _⟩ | ⟨_, q⟩
      · exact ⟨_, h⟩
      · exact ⟨_, q⟩
    obtain ⟨us1, o1⟩ := o1
    obtain ⟨us2, o2⟩ := o2
    exact R.dis j k us1 us2 b o1 o2 e1 e2
end
end Ev
set_option Elab.async false
set_option linter.all false
set_option maxRecDepth 100000
/-! Ev3: expressions. -/
namespace Ev
open PySem PySem.Spec PyProof.Rows L2

/-! ### judgements -/
structure SE (X : Cx) (A : List (Nat × Addr)) (G : Hp) (cs : CS) (e : Expr) (ie : IE) : Prop where
  run : ∀ (pins : List (Addr × Obj)) (s : Shared) (σ : L2.St) (H F : Hp) (ρ : Env) (o : Ov) (ρ' : Env), Inv X pins σ H s → Rel X.K A G F H σ ρ → ev cs ie ρ = some (o, ρ') →
    wpAny (model X.prog X.w) X.A (eval e X.env) (EP X pins σ (Post X.K A G F σ ρ' o)) X.xe s
/-- as a test -/
def PostT (K : Frag) (A : List (Nat × Addr)) (G F : Hp) (σ : L2.St) (ρ : Env) (b : Bool) : Bool → Hp → Prop := fun c H' => c = b ∧ ∃ F', Ext G F F' ∧ Rel K A G F' H' σ ρ
structure ST (X : Cx) (A : List (Nat × Addr)) (G : Hp) (cs : CS) (e : Expr) (it : IT) : Prop where
  run : ∀ (pins : List (Addr × Obj)) (s : Shared) (σ : L2.St) (H F : Hp) (ρ : Env) (b : Bool) (ρ' : Env), Inv X pins σ H s → Rel X.K A G F H σ ρ → evT cs it ρ = some (b, ρ') →
    wpAny (model X.prog X.w) X.A (isTrue e X.env (eval e X.env)) (TP X pins σ (PostT X.K A G F σ ρ' b)) X.xe s
/-- a test whatever its whole is -/
structure SW (X : Cx) (A : List (Nat × Addr)) (G : Hp) (cs : CS) (e : Expr) (it : IT) : Prop where
  run : ∀ (whole : Sem Value) (pins : List (Addr × Obj)) (s : Shared) (σ : L2.St) (H F : Hp) (ρ : Env) (b : Bool) (ρ' : Env), Inv X pins σ H s → Rel X.K A G F H σ ρ → evT cs it ρ = some (b, ρ') →
    wpAny (model X.prog X.w) X.A (isTrue e X.env whole) (TP X pins σ (PostT X.K A G F σ ρ' b)) X.xe s
/-- a test as a value: True or False -/
structure SB (X : Cx) (A : List (Nat × Addr)) (G : Hp) (cs : CS) (e : Expr) (it : IT) : Prop where
  run : ∀ (pins : List (Addr × Obj)) (s : Shared) (σ : L2.St) (H F : Hp) (ρ : Env) (b : Bool) (ρ' : Env), Inv X pins σ H s → Rel X.K A G F H σ ρ → evT cs it ρ = some (b, ρ') →
    wpAny (model X.prog X.w) X.A (eval e X.env) (EP X pins σ (PostD X.K A G F σ ρ' (.bool b))) X.xe s
inductive ArV (K : Frag) (F : Hp) (σ : L2.St) : List V → List Ar → Prop
  | nil : ArV K F σ [] []
  | d {v : V} {d : PyData} {vs : List V} {ars : List Ar} : Dn K F v d → ArV K F σ vs ars → ArV K F σ (v :: vs) (.d d :: ars)
  | r {v : V} {x : Nat} {vs : List V} {ars : List Ar} : σ[x]? = some (some v) → ArV K F σ vs ars → ArV K F σ (v :: vs) (.r x :: ars)
def PostA (K : Frag) (A : List (Nat × Addr)) (G F : Hp) (σ : L2.St) (ρ : Env) (ars : List Ar) : List V → Hp → Prop := fun vs H' => ∃ F', Ext G F F' ∧ Rel K A G F' H' σ ρ ∧ ArV K F' σ vs ars
structure SA (X : Cx) (A : List (Nat × Addr)) (G : Hp) (cs : CS) (es : List Expr) (ies : IEs) : Prop where
  run : ∀ (pos : Pos) (pins : List (Addr × Obj)) (s : Shared) (σ : L2.St) (H F : Hp) (ρ : Env) (ars : List Ar) (ρ' : Env), Inv X pins σ H s → Rel X.K A G F H σ ρ → evs cs ies ρ = some (ars, ρ') →
    wpAny (model X.prog X.w) X.A (spliced (backTo pos (starEach es X.env))) (AP X pins σ (PostA X.K A G F σ ρ' ars)) X.xe s
theorem ArV.mono {K : Frag} {F F' : Hp} {σ : L2.St} (s : Same F F') : ∀ {vs : List V} {ars : List Ar}, ArV K F σ vs ars → ArV K F' σ vs ars
  | _, _, .nil => .nil
  | _, _, .d h q => .d (h.mono s) (q.mono s)
  | _, _, .r h q => .r h (q.mono s)
theorem ArV.asD {K : Frag} {F : Hp} {σ : L2.St} : ∀ {vs : List V} {ars : List Ar} {ds : List PyData}, ArV K F σ vs ars → asD ars = some ds → DnA K F vs ds
  | _, _, _, .nil, e => by cases e; exact .nil
  | _, _, _, .d h q, e => by
    unfold Ev.asD at e
    obtain ⟨es, e1, rfl⟩ := Option.map_eq_some_iff.mp e
    exact .cons h (q.asD e1)
  | _, _, _, .r h q, e => by cases e

section
variable {X : Cx} {A : List (Nat × Addr)} {G : Hp} {cs : CS} {pins : List (Addr × Obj)} {s : Shared} {σ : L2.St} {H F : Hp} {ρ ρ' : Env} {o : Ov}
theorem SE.d {e : Expr} {ie : IE} (h : SE X A G cs e ie) (I : Inv X pins σ H s) (R : Rel X.K A G F H σ ρ) (he : ev cs ie ρ = some (o, ρ')) :
    wpAny (model X.prog X.w) X.A (eval e X.env) (EP X pins σ (PostD X.K A G F σ ρ' o.d)) X.xe s := thn (h.run pins s σ H F ρ o ρ' I R he) fun u s' ⟨v, H', I', r, q⟩ => ⟨v, H', I', r, q.toD⟩
/-- on from data -/
theorem SE.on {e : Expr} {ie : IE} {Q : Value → Shared → Prop} (h : SE X A G cs e ie) (I : Inv X pins σ H s) (R : Rel X.K A G F H σ ρ) (he : ev cs ie ρ = some (o, ρ'))
    (k : ∀ u s' v H' F', Inv X pins σ H' s' → RelV v u → Ext G F F' → Rel X.K A G F' H' σ ρ' → Dn X.K F' v o.d → Q u s') : wpAny (model X.prog X.w) X.A (eval e X.env) Q X.xe s :=
  thn (h.d I R he) fun u s' ⟨v, H', I', r, F', x, R', d⟩ => k u s' v H' F' I' r x R' d
theorem ext_ep {F1 : Hp} {u : Value} {s' : Shared} (x : Ext G F F1) (h : EP X pins σ (Post X.K A G F1 σ ρ o) u s') : EP X pins σ (Post X.K A G F σ ρ o) u s' := by
  obtain ⟨v, H', I, r, q⟩ := h
  exact ⟨v, H', I, r, q.ext x⟩
theorem ext_epd {F1 : Hp} {u : Value} {s' : Shared} {d : PyData} (x : Ext G F F1) (h : EP X pins σ (PostD X.K A G F1 σ ρ d) u s') : EP X pins σ (PostD X.K A G F σ ρ d) u s' := by
  obtain ⟨v, H', I, r, F', y, R, q⟩ := h
  exact ⟨v, H', I, r, F', x.trans y, R, q⟩
theorem ext_tp {F1 : Hp} {b c : Bool} {s' : Shared} (x : Ext G F F1) (h : TP X pins σ (PostT X.K A G F1 σ ρ b) c s') : TP X pins σ (PostT X.K A G F σ ρ b) c s' := by
  obtain ⟨H', I, e, F', y, R⟩ := h
  exact ⟨H', I, e, F', x.trans y, R⟩
/-- nothing changed -/
theorem Rel.post {K : Frag} {v : V} {d : PyData} (R : Rel K A G F H σ ρ) (h : Dn K F v d) : Post K A G F σ ρ (.imm d) v H := ⟨F, .refl, R, h⟩
/-- a new list -/
theorem Rel.newL {K : Frag} {p : Addr} {vs : List V} {ds : List PyData} (R : Rel K A G F H σ ρ) (hp : H p = none) (h : DnA K F vs ds) : Post K A G F σ ρ (.own ds) (.ref p) (upd H p (.lst vs)) := by
  refine ⟨F, .refl, R.grow (same_upd hp), p, rfl, ⟨R.frm.free hp, R.sub.free hp, vs, upd_same, h⟩, fun i ys hi e => ?_⟩
  obtain ⟨a, h1, o⟩ := R.own i ys hi
  rw [e] at h1; cases h1
  exact o.ne hp rfl
/-- a new tuple -/
theorem Rel.newT {K : Frag} {p : Addr} {vs : List V} {ds : List PyData} (R : Rel K A G F H σ ρ) (hp : H p = none) (h : DnA K F vs ds) : Post K A G F σ ρ (.imm (.tuple ds)) (.ref p) (upd H p (.tup vs)) := by
  have hf := R.sub.free hp
  have e : Same F (upd F p (.tup vs)) := same_upd hf
  refine ⟨upd F p (.tup vs), ⟨e, fun b hb gb => ?_⟩, (R.grow (same_upd hp)).wide e (fun b x q => ?_) (fun i ys b hi hb => ?_), .tup (.inl (.inl upd_same)) (h.mono e)⟩
  · have z : b ≠ p := fun z => gb (by rw [z]; exact R.frm.free hp)
    rw [upd_ne z]; exact hb
  · by_cases z : b = p
    · subst z; rw [upd_same] at q ⊢; exact q
    · rw [upd_ne z] at q ⊢; exact R.sub _ _ q
  · obtain ⟨a, h1, o⟩ := R.own i ys hi
    rw [hb] at h1; cases h1
    rw [upd_ne (o.ne hp)]
    exact o.2.1

/-! ### names and constants -/
theorem se_int {i : Int} {j : Nat} {pos : Pos} : SE X A G cs (.Constant (.int i) j pos) (.lit (.int i)) :=
  ⟨fun pins s σ H F ρ o ρ' I R e => by cases e; exact pe_int.run pins s σ H _ I (R.post (.int i))⟩
theorem se_bl {b : Bool} {j : Nat} {pos : Pos} : SE X A G cs (.Constant (.bool b) j pos) (.lit (.bool b)) :=
  ⟨fun pins s σ H F ρ o ρ' I R e => by cases e; exact pe_bl.run pins s σ H _ I (R.post (.bl b))⟩
theorem se_non {j : Nat} {pos : Pos} : SE X A G cs (.Constant .none j pos) (.lit .none) :=
  ⟨fun pins s σ H F ρ o ρ' I R e => by cases e; exact pe_non.run pins s σ H _ I (R.post .non)⟩
theorem se_str {x : Str} {j : Nat} {pos : Pos} : SE X A G cs (.Constant (.str x) j pos) (.lit (.str x)) :=
  ⟨fun pins s σ H F ρ o ρ' I R e => by cases e; exact pe_str.run pins s σ H _ I (R.post (.str x))⟩
/-- a module's constant -/
theorem se_glob {x : Str} {v : V} {u : Value} {c : PyData} {pos : Pos} (hg : Gl X x) (hm : X.mg x = some u) (r : RelV v u) (hd : Dn X.K (fun _ => none) v c) (hdb : (x == ("__debug__" : Str)) = false := by decide) : SE X A G cs (.Name x pos) (.glob c) :=
  ⟨fun pins s σ H F ρ o ρ' I R e => by cases e; exact (pe_glob hg hm r hdb).run pins s σ H _ I (R.post (hd.mono (by intro b o z; cases z)))⟩
theorem se_globX {x : Str} {c : PyData} {pos : Pos} (hg : Gl X x) (h : ∃ v u, X.mg x = some u ∧ RelV v u ∧ Dn X.K (fun _ => none) v c) (hdb : (x == ("__debug__" : Str)) = false := by decide) : SE X A G cs (.Name x pos) (.glob c) := by
  obtain ⟨v, u, hm, r, hd⟩ := h
  exact se_glob hg hm r hd hdb
theorem se_nope {e : Expr} : SE X A G cs e .nope := ⟨fun pins s σ H F ρ o ρ' I R e => by cases e⟩
theorem se_var {i : Nat} {x : Str} {pos : Pos} (hN : X.N[i]? = some x := by rfl) (hv : Vis X.env.scope x := by first | exact Or.inl rfl | exact Or.inr (Or.inl rfl) | exact Or.inr (Or.inr rfl)) (hd : (x == ("__debug__" : Str)) = false := by decide)
    (hcd : (x == ("__classdict__" : Str)) = false := by decide) : SE X A G cs (.Name x pos) (.var i) := by
  refine ⟨fun pins s σ H F ρ o ρ' I R e => ?_⟩
  unfold ev at e
  obtain ⟨o1, e1, e2⟩ := Option.map_eq_some_iff.mp e
  cases e2
  cases o1 with
  | imm d =>
    obtain ⟨v, h1, h2⟩ := R.imm i d e1
    exact (pe_var hN hv hd hcd).run pins s σ H _ I ⟨v, h1, F, .refl, R.setI h2 h1, h2⟩
  | own xs =>
    obtain ⟨a, h1, o⟩ := R.own i xs e1
    have R2 := R.clr i
    obtain ⟨F', x, R3, d⟩ := R2.freeze o fun j ys hj hs => by
      rw [getE_clr] at hj
      split at hj
      · cases hj
      · rename_i z
        exact z (R.dis i j xs ys a e1 hj h1 hs)
    refine (pe_var hN hv hd hcd).run pins s σ H _ I ⟨_, h1, F', x, ?_, d⟩
    have e3 : setE (clrE ρ i) i (.imm (.list xs)) = setE ρ i (.imm (.list xs)) := by unfold setE clrE; simp
    show Rel X.K A G F' H σ (setE ρ i (.imm (.list xs)))
    rw [← e3]
    exact R3.setI d h1
/-- the value of a slot that is only looked at -/
theorem Rel.peek {i : Nat} {o : Ov} (R : Rel X.K A G F H σ ρ) (e : getE ρ i = some o) : ∃ v, σ[i]? = some (some v) ∧ Dn X.K H v o.d := by
  cases o with
  | imm d =>
    obtain ⟨v, h1, h2⟩ := R.imm i d e
    exact ⟨v, h1, h2.mono R.sub⟩
  | own xs =>
    obtain ⟨a, h1, _, _, vs, h2, d⟩ := R.own i xs e
    exact ⟨_, h1, .lst h2 (d.mono R.sub)⟩

/-! ### operators -/
/-- an operator by values -/
def BinR (X : Cx) (f : Value → Value → Sem Value) (g : PyData → PyData → Option Ov) : Prop :=
  ∀ (A : List (Nat × Addr)) (G : Hp) (pins : List (Addr × Obj)) (s : Shared) (σ : L2.St) (H F : Hp) (ρ : Env) (v1 v2 : V) (u1 u2 : Value) (d1 d2 : PyData) (o : Ov), Inv X pins σ H s → Rel X.K A G F H σ ρ → RelV v1 u1 → RelV v2 u2 → Dn X.K F v1 d1 → Dn X.K F v2 d2 →
    g d1 d2 = some o → wpAny (model X.prog X.w) X.A (f u1 u2) (EP X pins σ (Post X.K A G F σ ρ o)) X.xe s
theorem se_bin {op : Operator} {bop : BOp} {a b : Expr} {ia ib : IE} {pos : Pos} (ho : BinR X (binaryOp op) (binD bop)) (ha : SE X A G cs a ia) (hb : SE X A G cs b ib) : SE X A G cs (.BinOp a op b pos) (.bin bop ia ib) := by
  refine ⟨fun pins s σ H F ρ o ρ' I R e => ?_⟩
  unfold ev at e
  obtain ⟨⟨o1, ρ1⟩, e1, e⟩ := Option.bind_eq_some_iff.mp e
  obtain ⟨⟨o2, ρ2⟩, e2, e⟩ := Option.bind_eq_some_iff.mp e
  obtain ⟨o3, e3, e⟩ := Option.map_eq_some_iff.mp e
  cases e
  refine wpAny_BinOp (ha.on I R e1 fun u1 s1 v1 H1 F1 I1 r1 x1 R1 d1 => hb.on I1 R1 e2 fun u2 s2 v2 H2 F2 I2 r2 x2 R2 d2 => ?_)
  exact thn (ho A G pins s2 σ H2 F2 _ v1 v2 u1 u2 _ _ o I2 R2 r1 r2 (d1.mono x2.le) d2 e3) fun u s' h => ext_ep (x1.trans x2) h
theorem ll_eq : (ll : Nat) = sizeLine := by rw [sizeLine_eq]; rfl
theorem mulOk_w {i j : Int} (h : mulOk i j = true) : CMulW i j := by
  unfold mulOk at h
  show i.natAbs.log2 + j.natAbs.log2 < 1000000
  exact of_decide_eq_true h
theorem br_add : BinR X (binaryOp .Add) (binD .add) := by
  intro A G pins s σ H F ρ v1 v2 u1 u2 d1 d2 o I R r1 r2 h1 h2 e
  unfold binD at e
  split at e <;> first | (cases e; done) | skip
  all_goals (rename_i q; cases q)
  · cases e; cases h1; cases h2
    exact op_add pins s σ H _ _ u1 u2 _ I r1 r2 ⟨_, _, rfl, rfl, R.post (.int _)⟩
  · cases h1; cases h2
    split at e
    · rename_i hl
      cases e
      exact op_add_str pins s σ H _ _ u1 u2 _ I r1 r2 ⟨_, _, rfl, rfl, by rw [← ll_eq]; exact hl, R.post (.str _)⟩
    · cases e
  · cases h1 with
    | lst a1 b1 => cases h2 with
      | lst a2 b2 =>
        split at e
        · rename_i hl
          cases e
          exact op_cat pins s σ H _ _ u1 u2 _ I r1 r2 ⟨_, _, _, _, rfl, rfl, R.sub _ _ a1, R.sub _ _ a2, by rw [b1.len, b2.len, ← ll_eq]; exact hl, fun p hp => R.newL hp (b1.app b2)⟩
        · cases e
  · cases h1 with
    | tup a1 b1 => cases h2 with
      | tup a2 b2 =>
        split at e
        · rename_i hl
          cases e
          refine op_catT pins s σ H _ _ u1 u2 _ I r1 r2 ⟨_, _, _, _, rfl, rfl, sqT_same R.sub a1, sqT_same R.sub a2, fun z => hl.2 ?_, by rw [b1.len, b2.len, ← ll_eq]; exact hl.1, fun z => ?_, fun z p hp => R.newT hp (b1.app b2)⟩
          · have := b1.len; rw [z] at this; exact List.eq_nil_of_length_eq_zero this.symm
          · have := b2.len; rw [z] at this
            rw [List.eq_nil_of_length_eq_zero this.symm, List.append_nil]
            exact R.post (.tup a1 b1)
        · cases e
theorem br_sub : BinR X (binaryOp .Sub) (binD .sub) := by
  intro A G pins s σ H F ρ v1 v2 u1 u2 d1 d2 o I R r1 r2 h1 h2 e
  unfold binD at e
  split at e <;> first | (cases e; done) | skip
  all_goals (rename_i q; cases q)
  cases e; cases h1; cases h2
  exact op_sub pins s σ H _ _ u1 u2 _ I r1 r2 ⟨_, _, rfl, rfl, R.post (.int _)⟩
theorem br_mul : BinR X (binaryOp .Mult) (binD .mul) := by
  intro A G pins s σ H F ρ v1 v2 u1 u2 d1 d2 o I R r1 r2 h1 h2 e
  unfold binD at e
  split at e <;> first | (cases e; done) | skip
  all_goals (rename_i q; cases q)
  · cases h1; cases h2
    split at e
    · rename_i hl
      cases e
      exact op_mulW pins s σ H _ _ u1 u2 _ I r1 r2 ⟨_, _, rfl, rfl, mulOk_w hl, R.post (.int _)⟩
    · cases e
  · cases h2
    cases h1 with
    | lst a1 b1 =>
      split at e
      · rename_i hl
        cases e
        unfold repOk at hl
        simp only [Bool.and_eq_true, decide_eq_true_eq] at hl
        exact op_rep pins s σ H _ _ u1 u2 _ I r1 r2 ⟨_, _, _, rfl, rfl, R.sub _ _ a1, hl.1.1, hl.1.2, by rw [b1.len, ← ll_eq]; exact hl.2, fun p hp => R.newL hp (b1.flat _)⟩
      · cases e
theorem op_fdivX : OpR X (binaryOp .FloorDiv) (rI (fun _ j => divOk j = true) fun i j => .int (i.fdiv j)) := opI fun i j _ _ _ _ _ hc q => by
  unfold divOk at hc
  simp only [Bool.and_eq_true, decide_eq_true_eq] at hc
  exact floordiv_int hc.1 q (.inl (PyProof.noPylong_of_log2 hc.2))
theorem br_fdiv : BinR X (binaryOp .FloorDiv) (binD .fdiv) := by
  intro A G pins s σ H F ρ v1 v2 u1 u2 d1 d2 o I R r1 r2 h1 h2 e
  unfold binD at e
  split at e <;> first | (cases e; done) | skip
  all_goals (rename_i q; cases q)
  cases h1; cases h2
  split at e
  · rename_i hl
    cases e
    exact op_fdivX pins s σ H _ _ u1 u2 _ I r1 r2 ⟨_, _, rfl, rfl, hl, R.post (.int _)⟩
  · cases e
theorem br_mod : BinR X (binaryOp .Mod) (binD .mod) := by
  intro A G pins s σ H F ρ v1 v2 u1 u2 d1 d2 o I R r1 r2 h1 h2 e
  unfold binD at e
  split at e <;> first | (cases e; done) | skip
  all_goals (rename_i q; cases q)
  cases h1; cases h2
  split at e
  · rename_i hl
    cases e
    exact op_modN pins s σ H _ _ u1 u2 _ I r1 r2 ⟨_, _, rfl, rfl, hl, R.post (.int _)⟩
  · cases e
theorem br_pow : BinR X (binaryOp .Pow) (binD .pow) := by
  intro A G pins s σ H F ρ v1 v2 u1 u2 d1 d2 o I R r1 r2 h1 h2 e
  unfold binD at e
  split at e <;> first | (cases e; done) | skip
  all_goals (rename_i q; cases q)
  cases h1; cases h2
  split at e
  · rename_i hl
    cases e
    unfold powOk at hl
    simp only [Bool.and_eq_true, decide_eq_true_eq] at hl
    exact op_pow pins s σ H _ _ u1 u2 _ I r1 r2 ⟨_, _, rfl, rfl, ⟨hl.1.1, hl.1.2, hl.2⟩, R.post (.int _)⟩
  · cases e
theorem se_neg {a : Expr} {ia : IE} {pos : Pos} (ha : SE X A G cs a ia) : SE X A G cs (.UnaryOp .USub a pos) (.neg ia) := by
  refine ⟨fun pins s σ H F ρ o ρ' I R e => ?_⟩
  unfold ev at e
  obtain ⟨⟨o1, ρ1⟩, e1, e⟩ := Option.bind_eq_some_iff.mp e
  obtain ⟨i, e3, e⟩ := Option.map_eq_some_iff.mp e
  cases e
  refine UnaryOp_ (ha.on I R e1 fun u1 s1 v1 H1 F1 I1 r1 x1 R1 d1 => ?_)
  have hd : o1.d = .int i := by
    cases q : o1.d <;> rw [q] at e3 <;> first | (cases e3; rfl) | cases e3
  rw [hd] at d1
  cases d1
  exact thn (un_neg pins s1 σ H1 _ u1 _ I1 r1 ⟨_, rfl, R1.post (.int _)⟩) fun u s' h => ext_ep x1 h
end
end Ev
set_option Elab.async false
set_option linter.all false
set_option maxRecDepth 100000
/-! Ev4: displays, places, calls of built-ins, tests. -/
namespace Ev
open PySem PySem.Spec PyProof.Rows L2

/-- the sizes of what stands in the heap -/
def Szs (K : Frag) (H : Hp) : Prop := ∀ a xs, (SqL K H a xs ∨ SqT K H a xs) → xs.length ≤ sizeLine
theorem szs_of {X : Cx} {pins : List (Addr × Obj)} {σ : L2.St} {H : Hp} {s : Shared} (I : Inv X pins σ H s) : Szs X.K H := fun a xs h => by
  rcases h with h | h
  · obtain ⟨_, _, _, z⟩ := I.list h; exact z
  · obtain ⟨_, _, _, z⟩ := I.tuple h; exact z
section
variable {X : Cx} {A : List (Nat × Addr)} {G : Hp} {cs : CS} {pins : List (Addr × Obj)} {s : Shared} {σ : L2.St} {H F : Hp} {ρ ρ' : Env} {o : Ov}
/-! ### as readings of HandS -/
def tEv (K : Frag) (A : List (Nat × Addr)) (G : Hp) (cs : CS) (ie : IE) : TE := fun σ H Q => ∃ F ρ o ρ', Rel K A G F H σ ρ ∧ ev cs ie ρ = some (o, ρ') ∧ ∀ v H', Szs K H' → Post K A G F σ ρ' o v H' → Q v H'
theorem SE.pe {e : Expr} {ie : IE} (h : SE X A G cs e ie) : PE X e (tEv X.K A G cs ie) := by
  refine ⟨fun pins s σ H Q I q => ?_⟩
  obtain ⟨F, ρ, o, ρ', R, he, k⟩ := q
  exact thn (h.run pins s σ H F ρ o ρ' I R he) fun u s' ⟨v, H', I', r, p⟩ => ⟨v, H', I', r, k v H' (szs_of I') p⟩
def tEvA (K : Frag) (A : List (Nat × Addr)) (G : Hp) (cs : CS) (ies : IEs) : TA := fun σ H Q => ∃ F ρ ars ρ', Rel K A G F H σ ρ ∧ evs cs ies ρ = some (ars, ρ') ∧ ∀ vs H', Szs K H' → PostA K A G F σ ρ' ars vs H' → Q vs H'
theorem SA.pa {es : List Expr} {ies : IEs} (h : SA X A G cs es ies) : PA X es (tEvA X.K A G cs ies) := by
  refine ⟨fun pos pins s σ H Q I q => ?_⟩
  obtain ⟨F, ρ, ars, ρ', R, he, k⟩ := q
  exact thn (h.run pos pins s σ H F ρ ars ρ' I R he) fun us s' ⟨vs, H', I', r, p⟩ => ⟨vs, H', I', r, k vs H' (szs_of I') p⟩
def tEvT (K : Frag) (A : List (Nat × Addr)) (G : Hp) (cs : CS) (it : IT) : TT := fun σ H Q => ∃ F ρ b ρ', Rel K A G F H σ ρ ∧ evT cs it ρ = some (b, ρ') ∧ ∀ F' H', Ext G F F' → Rel K A G F' H' σ ρ' → Q b H'
theorem ST.pt {e : Expr} {it : IT} (h : ST X A G cs e it) : PT X e (tEvT X.K A G cs it) := by
  refine ⟨fun pins s σ H Q I q => ?_⟩
  obtain ⟨F, ρ, b, ρ', R, he, k⟩ := q
  exact thn (h.run pins s σ H F ρ b ρ' I R he) fun c s' ⟨H', I', e, F', x, R'⟩ => ⟨H', I', by subst e; exact k F' H' x R'⟩

/-! ### arguments -/
theorem sa_nil : SA X A G cs [] .nil := ⟨fun pos pins s σ H F ρ ars ρ' I R e => by
  cases e
  exact Calls.spliced_nil ⟨[], H, I, .nil, F, .refl, R, .nil⟩⟩
theorem sa_cons {e : Expr} {es : List Expr} {ie : IE} {ies : IEs} (ha : SE X A G cs e ie) (hr : SA X A G cs es ies) (hs : starEach (e :: es) X.env = (false, eval e X.env) :: starEach es X.env := by rfl) : SA X A G cs (e :: es) (.cons ie ies) := by
  refine ⟨fun pos pins s σ H F ρ ars ρ' I R e => ?_⟩
  unfold evs at e
  obtain ⟨⟨o1, ρ1⟩, e1, e⟩ := Option.bind_eq_some_iff.mp e
  obtain ⟨⟨as, ρ2⟩, e2, e⟩ := Option.map_eq_some_iff.mp e
  cases e
  rw [hs]
  show wpAny _ _ (spliced ((false, eval _ X.env) :: backTo pos (starEach es X.env))) _ _ s
  refine Calls.spliced_cons (ha.on I R e1 fun u1 s1 v1 H1 F1 I1 r1 x1 R1 d1 => ?_)
  exact thn (hr.run pos pins s1 σ H1 F1 ρ1 as _ I1 R1 e2) fun us s2 ⟨vs, H2, I2, r2, F2, x2, R2, a2⟩ => ⟨v1 :: vs, H2, I2, .cons r1 r2, F2, x1.trans x2, R2, .d (d1.mono x2.le) a2⟩
theorem sa_ref {x : Str} {i : Nat} {p : Pos} {es : List Expr} {ies : IEs} (hr : SA X A G cs es ies) (hN : X.N[i]? = some x := by rfl) (hv : Vis X.env.scope x := by first | exact Or.inl rfl | exact Or.inr (Or.inl rfl) | exact Or.inr (Or.inr rfl))
    (hd : (x == ("__debug__" : Str)) = false := by decide) (hcd : (x == ("__classdict__" : Str)) = false := by decide) (hs : starEach (Expr.Name x p :: es) X.env = (false, eval (.Name x p) X.env) :: starEach es X.env := by rfl) : SA X A G cs (.Name x p :: es) (.ref i ies) := by
  refine ⟨fun pos pins s σ H F ρ ars ρ' I R e => ?_⟩
  unfold evs at e
  obtain ⟨o1, e1, e⟩ := Option.bind_eq_some_iff.mp e
  obtain ⟨⟨as, ρ2⟩, e2, e⟩ := Option.map_eq_some_iff.mp e
  cases e
  obtain ⟨v, h1, _⟩ := R.peek e1
  rw [hs]
  show wpAny _ _ (spliced ((false, eval _ X.env) :: backTo pos (starEach es X.env))) _ _ s
  refine Calls.spliced_cons (thn ((pe_var hN hv hd hcd).run pins s σ H (fun v' H' => v' = v ∧ H' = H) I ⟨v, h1, rfl, rfl⟩) fun u1 s1 ⟨v1, H1, I1, r1, ev, eh⟩ => ?_)
  subst ev eh
  exact thn (hr.run pos pins s1 σ H1 F ρ as _ I1 R e2) fun us s2 ⟨vs, H2, I2, r2, F2, x2, R2, a2⟩ => ⟨v1 :: vs, H2, I2, .cons r1 r2, F2, x2, R2, .r h1 a2⟩
theorem se_tup {es : List Expr} {ies : IEs} {k : Nat} {pos : Pos} (ha : SA X A G cs es ies) : SE X A G cs (.Tuple es k pos) (.tup ies) := by
  refine ⟨fun pins s σ H F ρ o ρ' I R e => ?_⟩
  unfold ev at e
  obtain ⟨⟨as, ρ1⟩, e1, e⟩ := Option.bind_eq_some_iff.mp e
  obtain ⟨ds, e2, e⟩ := Option.bind_eq_some_iff.mp e
  split at e
  · rename_i hl
    cases e
    refine (pe_tup ha.pa).run pins s σ H _ I ⟨F, ρ, as, _, R, e1, fun vs H' _ ⟨F', x, R', av⟩ => ?_⟩
    have dv := av.asD e2
    exact ⟨by rw [dv.len, ← ll_eq]; exact hl, fun p hp => (R'.newT hp dv).ext x⟩
  · cases e
theorem se_lst {es : List Expr} {ies : IEs} {pos : Pos} (ha : SA X A G cs es ies) : SE X A G cs (.List es pos) (.lst ies) := by
  refine ⟨fun pins s σ H F ρ o ρ' I R e => ?_⟩
  unfold ev at e
  obtain ⟨⟨as, ρ1⟩, e1, e⟩ := Option.bind_eq_some_iff.mp e
  obtain ⟨ds, e2, e⟩ := Option.bind_eq_some_iff.mp e
  split at e
  · rename_i hl
    cases e
    refine (pe_lst ha.pa).run pins s σ H _ I ⟨F, ρ, as, _, R, e1, fun vs H' _ ⟨F', x, R', av⟩ => ?_⟩
    have dv := av.asD e2
    exact ⟨by rw [dv.len, ← ll_eq]; exact hl, fun p hp => (R'.newL hp dv).ext x⟩
  · cases e

/-! ### what is only looked at -/
/-- data, or an own list -/
def Pk (K : Frag) (F H : Hp) (v : V) (d : PyData) : Prop := Dn K F v d ∨ ∃ a vs xs, v = .ref a ∧ d = .list xs ∧ H a = some (.lst vs) ∧ DnA K F vs xs
theorem Rel.pk {i : Nat} {o : Ov} (R : Rel X.K A G F H σ ρ) (e : getE ρ i = some o) : ∃ v, σ[i]? = some (some v) ∧ Pk X.K F H v o.d := by
  cases o with
  | imm d =>
    obtain ⟨v, h1, h2⟩ := R.imm i d e
    exact ⟨v, h1, .inl h2⟩
  | own xs =>
    obtain ⟨a, h1, _, _, vs, h2, d⟩ := R.own i xs e
    exact ⟨_, h1, .inr ⟨a, vs, xs, rfl, rfl, h2, d⟩⟩
theorem Pk.lst {K : Frag} {F H : Hp} {v : V} {xs : List PyData} (s : Same F H) (h : Pk K F H v (.list xs)) : ∃ a vs, v = .ref a ∧ H a = some (.lst vs) ∧ DnA K F vs xs := by
  rcases h with h | ⟨a, vs, ys, rfl, e, h1, h2⟩
  · cases h with
    | lst h1 h2 => exact ⟨_, _, rfl, s _ _ h1, h2⟩
  · cases e; exact ⟨_, _, rfl, h1, h2⟩
theorem Pk.imm {K : Frag} {F H : Hp} {v : V} {d : PyData} (h : Pk K F H v d) (n : ∀ xs, d ≠ .list xs) : Dn K F v d := by
  rcases h with h | ⟨a, vs, ys, rfl, e, h1, h2⟩
  · exact h
  · exact absurd e (n ys)
theorem Pk.tyOf {K : Frag} {F H : Hp} {v : V} {d : PyData} (s : Same F H) (h : Pk K F H v d) : TyX K H v (.type (kindD d)) := by
  rcases h with h | ⟨a, vs, ys, rfl, rfl, h1, h2⟩
  · cases h with
    | non => exact .base .non
    | bl b => exact .base (.bl b)
    | int i => exact .base (.int i)
    | str x => exact .base (.str x)
    | lst h1 h2 => exact .base (.lst (s _ _ h1))
    | tup h1 h2 =>
      rcases h1 with (h1 | ⟨o, h1⟩) | ⟨o, its, n, h1, hc, _⟩
      · exact .base (.tup (s _ _ h1))
      · exact .fTuple (s _ _ h1)
      · exact .kTuple h1 hc
    | dct h1 h2 e => exact .base (.dK (s _ _ h1))
  · exact .base (.lst h1)

/-! ### places -/
theorem ix_eq : @Ev.ixN = @L2.ixN := rfl
/-- an item, by values -/
theorem idx_ok {value slice : Expr} {v1 v2 : V} {u1 u2 : Value} {d1 d2 d : PyData} (I : Inv X pins σ H s) (R : Rel X.K A G F H σ ρ) (r1 : RelV v1 u1) (r2 : RelV v2 u2) (h1 : Pk X.K F H v1 d1) (h2 : Dn X.K F v2 d2) (e : idxD d1 d2 = some d)
    (hs : subscripted slice false u1 u2 = operate [u1, u2] (getItem u1 u2)) : wpAny (model X.prog X.w) X.A (subscriptTail value slice u1 u2) (EP X pins σ (Post X.K A G F σ ρ (.imm d))) X.xe s := by
  refine ix_seq value slice pins s σ H v1 v2 u1 u2 _ I r1 r2 ?_ hs
  unfold idxD at e
  split at e <;> first | (cases e; done) | skip
  · obtain ⟨a, vs, rfl, a1, b1⟩ := h1.lst R.sub
    cases h2
    obtain ⟨j, e1, e2⟩ := Option.bind_eq_some_iff.mp e
    obtain ⟨v, g1, g2⟩ := b1.get e2
    refine .inl ⟨_, _, _, v, rfl, rfl, SqL.of a1, ?_, R.post g2⟩
    unfold L2.atI
    rw [b1.len, ← ix_eq, e1]
    exact g1
  · cases h2
    cases h1.imm (fun xs q => by cases q) with
    | tup a1 b1 =>
      obtain ⟨j, e1, e2⟩ := Option.bind_eq_some_iff.mp e
      obtain ⟨v, g1, g2⟩ := b1.get e2
      refine .inr (.inl ⟨_, _, _, v, rfl, rfl, sqT_same R.sub a1, ?_, R.post g2⟩)
      unfold L2.atI
      rw [b1.len, ← ix_eq, e1]
      exact g1
  · cases h2
    cases h1.imm (fun xs q => by cases q) with
    | str _ =>
      split at e
      · rename_i hl
        obtain ⟨c, e1, e2⟩ := Option.map_eq_some_iff.mp e
        cases e2
        refine .inr (.inr ⟨_, _, c, rfl, rfl, by rw [← ll_eq]; exact hl, e1, R.post (.str _)⟩)
      · cases e
theorem se_idx {a b : Expr} {ia ib : IE} {pos : Pos} (ha : SE X A G cs a ia) (hb : SE X A G cs b ib) (hs : PlainIx b := by exact fun _ _ => rfl) : SE X A G cs (.Subscript a b pos) (.idx ia ib) := by
  refine ⟨fun pins s σ H F ρ o ρ' I R e => ?_⟩
  unfold ev at e
  obtain ⟨⟨o1, ρ1⟩, e1, e⟩ := Option.bind_eq_some_iff.mp e
  obtain ⟨⟨o2, ρ2⟩, e2, e⟩ := Option.bind_eq_some_iff.mp e
  obtain ⟨d, e3, e⟩ := Option.map_eq_some_iff.mp e
  cases e
  refine Subscript_ (ha.on I R e1 fun u1 s1 v1 H1 F1 I1 r1 x1 R1 d1 => hb.on I1 R1 e2 fun u2 s2 v2 H2 F2 I2 r2 x2 R2 d2 => ?_)
  exact thn (idx_ok I2 R2 r1 r2 (.inl (d1.mono x2.le)) d2 e3 (hs _ _)) fun u s' h => ext_ep (x1.trans x2) h
/-- the name of a slot, looked at -/
theorem look_var {i : Nat} {x : Str} {p : Pos} {v : V} {Q : Value → Shared → Prop} (I : Inv X pins σ H s) (h : σ[i]? = some (some v)) (k : ∀ u s', Inv X pins σ H s' → RelV v u → Q u s') (hN : X.N[i]? = some x) (hv : Vis X.env.scope x)
    (hd : (x == ("__debug__" : Str)) = false) (hcd : (x == ("__classdict__" : Str)) = false) : wpAny (model X.prog X.w) X.A (eval (.Name x p) X.env) Q X.xe s :=
  thn ((pe_var hN hv hd hcd).run pins s σ H (fun v' H' => v' = v ∧ H' = H) I ⟨v, h, rfl, rfl⟩) fun u s' ⟨v', H', I', r, e1, e2⟩ => by subst e1 e2; exact k u s' I' r
theorem se_idxv {i : Nat} {x : Str} {p : Pos} {b : Expr} {ib : IE} {pos : Pos} (hb : SE X A G cs b ib) (hs : PlainIx b := by exact fun _ _ => rfl) (hN : X.N[i]? = some x := by rfl)
    (hv : Vis X.env.scope x := by first | exact Or.inl rfl | exact Or.inr (Or.inl rfl) | exact Or.inr (Or.inr rfl)) (hd : (x == ("__debug__" : Str)) = false := by decide) (hcd : (x == ("__classdict__" : Str)) = false := by decide) :
    SE X A G cs (.Subscript (.Name x p) b pos) (.idxv i ib) := by
  refine ⟨fun pins s σ H F ρ o ρ' I R e => ?_⟩
  unfold ev at e
  obtain ⟨o0, e0, e⟩ := Option.bind_eq_some_iff.mp e
  obtain ⟨⟨o2, ρ2⟩, e2, e⟩ := Option.bind_eq_some_iff.mp e
  obtain ⟨o1, e1, e⟩ := Option.bind_eq_some_iff.mp e
  obtain ⟨d, e3, e⟩ := Option.map_eq_some_iff.mp e
  cases e
  obtain ⟨v, h0, _⟩ := R.pk e0
  refine Subscript_ (look_var I h0 (fun u1 s1 I1 r1 => hb.on I1 R e2 fun u2 s2 v2 H2 F2 I2 r2 x2 R2 d2 => ?_) hN hv hd hcd)
  obtain ⟨v', h1, pk⟩ := R2.pk e1
  rw [h0] at h1
  cases h1
  exact thn (idx_ok I2 R2 r1 r2 pk d2 e3 (hs _ _)) fun u s' h => ext_ep x2 h
end
end Ev
set_option Elab.async false
set_option linter.all false
set_option maxRecDepth 100000
/-! Ev5: slices, built-ins, isinstance, tests. -/
namespace Ev
open PySem PySem.Spec PyProof.Rows L2
section
variable {X : Cx} {A : List (Nat × Addr)} {G : Hp} {cs : CS} {pins : List (Addr × Obj)} {s : Shared} {σ : L2.St} {H F : Hp} {ρ ρ' : Env} {o : Ov}
/-! ### slices -/
def tEvO (K : Frag) (A : List (Nat × Addr)) (G : Hp) (cs : CS) (io : IO) : TO := fun σ H Q => ∃ F ρ k ρ', Rel K A G F H σ ρ ∧ evO cs io ρ = some (k, ρ') ∧ ∀ F' H', Ext G F F' → Rel K A G F' H' σ ρ' → Q k H'
abbrev SO (X : Cx) (A : List (Nat × Addr)) (G : Hp) (cs : CS) (e : Option Expr) (io : IO) : Prop := PO X e (tEvO X.K A G cs io)
theorem so_none : SO X A G cs none .non := ⟨fun pins s σ H Q I ⟨F, ρ, k, ρ', R, e, q⟩ => by
  cases e
  exact po_none.run pins s σ H Q I (q F H .refl R)⟩
theorem intOf_some {d : PyData} {i : Int} (h : intOf d = some i) : d = .int i := by
  cases d <;> first | (cases h; rfl) | cases h
theorem so_some {e : Expr} {ie : IE} (h : SE X A G cs e ie) : SO X A G cs (some e) (.som ie) := ⟨fun pins s σ H Q I ⟨F, ρ, k, ρ', R, he, q⟩ => by
  unfold evO at he
  obtain ⟨⟨o1, ρ1⟩, e1, he⟩ := Option.bind_eq_some_iff.mp he
  obtain ⟨i, e2, he⟩ := Option.map_eq_some_iff.mp he
  cases he
  refine (po_some h.pe).run pins s σ H Q I ⟨F, ρ, o1, _, R, e1, fun v H' _ p => ?_⟩
  obtain ⟨F', x, R', d⟩ := p.toD
  rw [intOf_some e2] at d
  cases d
  exact ⟨i, rfl, q F' H' x R'⟩⟩
theorem cut_V (xs : List V) (lo hi : Option Int) : cutV xs lo hi = Ev.cut xs lo hi := rfl
theorem DnA.cut {K : Frag} {F : Hp} {vs : List V} {ds : List PyData} (h : DnA K F vs ds) (lo hi : Option Int) : DnA K F (cutV vs lo hi) (Ev.cut ds lo hi) := by
  rw [cut_V]
  unfold Ev.cut
  rw [h.len]
  exact (h.drop _).take _
/-- a slice, by values -/
def rSlX2 (K : Frag) : V → Option Int → Option Int → Hp → VK → Prop := fun x lo hi H Q => rSlL K x lo hi H Q ∨ rSlA K x lo hi H Q
theorem sl_two : SlR X (rSlX2 X.K) := sl_list.or sl_tupA
theorem slc_ok {v : V} {d : PyData} {lo hi : Option Int} {Q : VK} (R : Rel X.K A G F H σ ρ) (h : Pk X.K F H v d) (e : slcD d lo hi = some o) (k : ∀ v H', Post X.K A G F σ ρ o v H' → Q v H') : rSlX2 X.K v lo hi H Q := by
  unfold slcD at e
  split at e <;> first | (cases e; done) | skip
  · cases e
    obtain ⟨a, vs, rfl, a1, b1⟩ := h.lst R.sub
    exact .inl ⟨a, vs, rfl, SqL.of a1, fun p hp => k _ _ (R.newL hp (b1.cut _ _))⟩
  · cases e
    cases h.imm (fun xs q => by cases q) with
    | tup a1 b1 =>
      refine .inr ⟨_, _, rfl, sqT_same R.sub a1, fun w => k _ _ ?_, fun w p hp => k _ _ (R.newT hp (b1.cut _ _))⟩
      have e1 : ∀ ds : List PyData, DnA X.K F _ ds → Ev.cut ds lo hi = ds := fun ds b => by
        unfold Ev.cut
        rw [← b.len, w.1, w.2, List.drop_zero, Nat.sub_zero, b.len, List.take_length]
      rw [e1 _ b1]
      exact R.post (.tup a1 b1)
theorem se_slc {a : Expr} {lo hi : Option Expr} {ia : IE} {il ih : IO} {pos p2 : Pos} (ha : SE X A G cs a ia) (hl : SO X A G cs lo il) (hh : SO X A G cs hi ih) : SE X A G cs (.Subscript a (.Slice lo hi none p2) pos) (.slc ia il ih) := by
  refine ⟨fun pins s σ H F ρ o ρ' I R e => ?_⟩
  unfold ev at e
  obtain ⟨⟨o1, ρ1⟩, e1, e⟩ := Option.bind_eq_some_iff.mp e
  obtain ⟨⟨k1, ρ2⟩, e2, e⟩ := Option.bind_eq_some_iff.mp e
  obtain ⟨⟨k2, ρ3⟩, e3, e⟩ := Option.bind_eq_some_iff.mp e
  obtain ⟨o2, e4, e⟩ := Option.map_eq_some_iff.mp e
  cases e
  refine (pe_slice sl_two ha.pe hl hh).run pins s σ H _ I ⟨F, ρ, o1, ρ1, R, e1, fun v H1 _ p => ?_⟩
  obtain ⟨F1, x1, R1, d1⟩ := p.toD
  refine ⟨F1, ρ1, k1, ρ2, R1, e2, fun F2 H2 x2 R2 => ⟨F2, ρ2, k2, _, R2, e3, fun F3 H3 x3 R3 => ?_⟩⟩
  exact slc_ok R3 (.inl (d1.mono (x2.trans x3).le)) e4 fun v H' q => q.ext (x1.trans (x2.trans x3))
theorem se_slcv {i : Nat} {x : Str} {p : Pos} {lo hi : Option Expr} {il ih : IO} {pos p2 : Pos} (hl : SO X A G cs lo il) (hh : SO X A G cs hi ih) (hN : X.N[i]? = some x := by rfl)
    (hv : Vis X.env.scope x := by first | exact Or.inl rfl | exact Or.inr (Or.inl rfl) | exact Or.inr (Or.inr rfl)) (hd : (x == ("__debug__" : Str)) = false := by decide) (hcd : (x == ("__classdict__" : Str)) = false := by decide) :
    SE X A G cs (.Subscript (.Name x p) (.Slice lo hi none p2) pos) (.slcv i il ih) := by
  refine ⟨fun pins s σ H F ρ o ρ' I R e => ?_⟩
  unfold ev at e
  obtain ⟨o0, e0, e⟩ := Option.bind_eq_some_iff.mp e
  obtain ⟨⟨k1, ρ2⟩, e2, e⟩ := Option.bind_eq_some_iff.mp e
  obtain ⟨⟨k2, ρ3⟩, e3, e⟩ := Option.bind_eq_some_iff.mp e
  obtain ⟨o1, e1, e⟩ := Option.bind_eq_some_iff.mp e
  obtain ⟨o2, e4, e⟩ := Option.map_eq_some_iff.mp e
  cases e
  obtain ⟨v, h0, _⟩ := R.pk e0
  refine (pe_slice sl_two (pe_var hN hv hd hcd) hl hh).run pins s σ H _ I ⟨v, h0, F, ρ, k1, ρ2, R, e2, fun F2 H2 x2 R2 => ⟨F2, ρ2, k2, _, R2, e3, fun F3 H3 x3 R3 => ?_⟩⟩
  obtain ⟨v', h1, pk⟩ := R3.pk e1
  rw [h0] at h1
  cases h1
  exact slc_ok R3 pk e4 fun v H' q => q.ext (x2.trans x3)
end
end Ev
set_option Elab.async false
set_option linter.all false
set_option maxRecDepth 100000
/-! Ev6: built-ins, isinstance, tests. -/
namespace Ev
open PySem PySem.Spec PyProof.Rows L2
inductive PkA (K : Frag) (F H : Hp) : List V → List PyData → Prop
  | nil : PkA K F H [] []
  | cons {v : V} {d : PyData} {vs : List V} {ds : List PyData} : Pk K F H v d → PkA K F H vs ds → PkA K F H (v :: vs) (d :: ds)
theorem DnA.pk {K : Frag} {F H : Hp} : ∀ {vs : List V} {ds : List PyData}, DnA K F vs ds → PkA K F H vs ds
  | _, _, .nil => .nil
  | _, _, .cons h q => .cons (.inl h) q.pk
section
variable {X : Cx} {A : List (Nat × Addr)} {G : Hp} {cs : CS} {pins : List (Addr × Obj)} {s : Shared} {σ : L2.St} {H F : Hp} {ρ ρ' : Env} {o : Ov}
/-! ### built-ins -/
def BltR (X : Cx) (f : Value) (b : Blt) : Prop :=
  ∀ (A : List (Nat × Addr)) (G : Hp) (pins : List (Addr × Obj)) (s : Shared) (σ : L2.St) (H F : Hp) (ρ : Env) (vs : List V) (us : List Value) (ds : List PyData) (o : Ov), Inv X pins σ H s → Rel X.K A G F H σ ρ → Vals vs us → PkA X.K F H vs ds → fnD b ds = some o →
    wpAny (model X.prog X.w) X.A (call f us) (EP X pins σ (Post X.K A G F σ ρ o)) X.xe s
theorem bl_len : BltR X (.builtin "len") .len := by
  intro A G pins s σ H F ρ vs us ds o I R r h e
  unfold fnD at e
  split at e <;> first | (cases e; done) | skip
  all_goals (rename_i q; cases q)
  · cases h with | cons h q =>
      cases q; cases e
      obtain ⟨a, ws, rfl, a1, b1⟩ := h.lst R.sub
      exact call_len_seq pins s σ H _ us _ I r ⟨a, ws, rfl, .inl (SqL.of a1), by rw [b1.len]; exact R.post (.int _)⟩
  · cases h with | cons h q =>
      cases q
      cases e
      cases h.imm (fun xs q => by cases q) with
      | tup a1 b1 => exact call_len_seq pins s σ H _ us _ I r ⟨_, _, rfl, .inr (sqT_same R.sub a1), by rw [b1.len]; exact R.post (.int _)⟩
  · cases h with | cons h q =>
      cases q
      split at e
      · rename_i hl
        cases e
        cases h.imm (fun xs q => by cases q)
        exact call_len pins s σ H _ us _ I r ⟨_, _, rfl, ⟨by rw [← ll_eq]; exact hl, rfl⟩, R.post (.int _)⟩
      · cases e
theorem bl_abs : BltR X (.builtin "abs") .abs := by
  intro A G pins s σ H F ρ vs us ds o I R r h e
  unfold fnD at e
  split at e <;> first | (cases e; done) | skip
  all_goals (rename_i q; cases q)
  cases h with | cons h q =>
    cases q; cases e
    cases h.imm (fun xs q => by cases q)
    exact call_abs pins s σ H _ us _ I r ⟨_, rfl, R.post (.int _)⟩
theorem bl_int : BltR X (.type "int") .int := by
  intro A G pins s σ H F ρ vs us ds o I R r h e
  unfold fnD at e
  split at e <;> first | (cases e; done) | skip
  all_goals (rename_i q; cases q)
  cases h with | cons h q =>
    cases q; cases e
    cases h.imm (fun xs q => by cases q)
    exact call_int1 pins s σ H _ us _ I r (.inl ⟨_, rfl, R.post (.int _)⟩)
theorem bl_max (hc : X.calm = true) : BltR X (.builtin "max") .max := by
  intro A G pins s σ H F ρ vs us ds o I R r h e
  unfold fnD at e
  split at e <;> first | (cases e; done) | skip
  all_goals (rename_i q; cases q)
  cases h with | cons h q => cases q with | cons h2 q =>
    cases q; cases e
    cases h.imm (fun xs q => by cases q)
    cases h2.imm (fun xs q => by cases q)
    exact call_max2 hc pins s σ H _ us _ I r ⟨_, _, rfl, R.post (.int _)⟩
theorem bl_min (hc : X.calm = true) : BltR X (.builtin "min") .min := by
  intro A G pins s σ H F ρ vs us ds o I R r h e
  unfold fnD at e
  split at e <;> first | (cases e; done) | skip
  all_goals (rename_i q; cases q)
  cases h with | cons h q => cases q with | cons h2 q =>
    cases q; cases e
    cases h.imm (fun xs q => by cases q)
    cases h2.imm (fun xs q => by cases q)
    exact call_min2 hc pins s σ H _ us _ I r ⟨_, _, rfl, R.post (.int _)⟩
theorem bools_V {K : Frag} {F : Hp} : ∀ {vs : List V} {ds : List PyData} {bs : List Bool}, DnA K F vs ds → bools ds = some bs → vs = bs.map V.bl
  | _, _, _, .nil, e => by cases e; rfl
  | _, _, _, .cons h q, e => by
    unfold bools at e
    split at e <;> first | (cases e; done) | skip
    · rename_i w; cases w
    · rename_i w
      cases w
      obtain ⟨cs, e1, rfl⟩ := Option.map_eq_some_iff.mp e
      cases h
      rw [bools_V q e1]
      rfl
theorem bl_all (hc : X.calm = true) : BltR X (.builtin "all") .all := by
  intro A G pins s σ H F ρ vs us ds o I R r h e
  unfold fnD at e
  split at e <;> first | (cases e; done) | skip
  all_goals (rename_i q; cases q)
  cases h with | cons h q =>
    cases q
    obtain ⟨bs, e1, rfl⟩ := Option.map_eq_some_iff.mp e
    obtain ⟨a, ws, rfl, a1, b1⟩ := h.lst R.sub
    have hb := bools_V b1 e1
    subst hb
    exact cr_all hc pins s σ H _ us _ I r ⟨a, bs, rfl, SqL.of a1, R.post (.bl _)⟩
theorem bl_any (hc : X.calm = true) : BltR X (.builtin "any") .any := by
  intro A G pins s σ H F ρ vs us ds o I R r h e
  unfold fnD at e
  split at e <;> first | (cases e; done) | skip
  all_goals (rename_i q; cases q)
  cases h with | cons h q =>
    cases q
    obtain ⟨bs, e1, rfl⟩ := Option.map_eq_some_iff.mp e
    obtain ⟨a, ws, rfl, a1, b1⟩ := h.lst R.sub
    have hb := bools_V b1 e1
    subst hb
    exact cr_any hc pins s σ H _ us _ I r ⟨a, bs, rfl, SqL.of a1, R.post (.bl _)⟩
theorem bl_list : BltR X (.type "list") .list := by
  intro A G pins s σ H F ρ vs us ds o I R r h e
  unfold fnD at e
  split at e <;> first | (cases e; done) | skip
  all_goals (rename_i q; cases q)
  · cases h with | cons h q =>
      cases q; cases e
      obtain ⟨a, ws, rfl, a1, b1⟩ := h.lst R.sub
      exact call_list_of pins s σ H _ us _ I r ⟨a, ws, rfl, .inl (SqL.of a1), fun p hp => R.newL hp b1⟩
  · cases h with | cons h q =>
      cases q; cases e
      cases h.imm (fun xs q => by cases q) with
      | tup a1 b1 => exact call_list_of pins s σ H _ us _ I r ⟨_, _, rfl, .inr (sqT_same R.sub a1), fun p hp => R.newL hp b1⟩
theorem bl_tuple : BltR X (.type "tuple") .tuple := by
  intro A G pins s σ H F ρ vs us ds o I R r h e
  unfold fnD at e
  split at e <;> first | (cases e; done) | skip
  all_goals (rename_i q; cases q)
  · cases h with | cons h q =>
      cases q; cases e
      obtain ⟨a, ws, rfl, a1, b1⟩ := h.lst R.sub
      exact call_tuple_of pins s σ H _ us _ I r ⟨a, ws, rfl, .inl ⟨SqL.of a1, fun p hp => R.newT hp b1⟩⟩
  · cases h with | cons h q =>
      cases q; cases e
      cases h.imm (fun xs q => by cases q) with
      | tup a1 b1 => exact call_tuple_of pins s σ H _ us _ I r ⟨_, _, rfl, .inr ⟨sqT_same R.sub a1, R.post (.tup a1 b1)⟩⟩
/-- f(e, ..), f a built-in function | a built-in type -/
theorem se_fnB {id : String} {b : Blt} {x : Str} {p pos : Pos} {e : Expr} {es : List Expr} {ies : IEs} (hb : BltR X (.builtin id) b) (hg : Gl X x) (hm : X.mg x = none) (hv : bootBuiltins x = some (.builtin id)) (ha : SA X A G cs (e :: es) ies) (hn : x ≠ "__name__" := by decide)
    (hdb : (x == ("__debug__" : Str)) = false := by decide) (he : starEach (e :: es) X.env = (false, eval e X.env) :: starEach es X.env := by rfl) (hpl : (backTo pos (starEach es X.env)).any (·.1) = false := by rfl) : SE X A G cs (.Call (.Name x p) (e :: es) [] pos) (.fn b ies) := by
  refine ⟨fun pins s σ H F ρ o ρ' I R h => ?_⟩
  unfold ev at h
  obtain ⟨⟨as, ρ1⟩, e1, h⟩ := Option.bind_eq_some_iff.mp h
  obtain ⟨ds, e2, h⟩ := Option.bind_eq_some_iff.mp h
  obtain ⟨o2, e3, h⟩ := Option.map_eq_some_iff.mp h
  cases h
  refine wpAny_Call_Name_kw (ld_blt I hg hm hv ?_ hn hdb)
  exact PyProof.Rows.callWith_builtin1 (thn (ha.run pos pins s σ H F ρ as _ I R e1) fun us s1 ⟨vs, H1, I1, r1, F1, x1, R1, av⟩ => thn (hb A G pins s1 σ H1 F1 _ vs us ds o I1 R1 r1 (av.asD e2).pk e3) fun u s' h => ext_ep x1 h) he hpl
theorem se_fnT {id : String} {b : Blt} {x : Str} {p pos : Pos} {e : Expr} {es : List Expr} {ies : IEs} (hb : BltR X (.type id) b) (hg : Gl X x) (hm : X.mg x = none) (hv : bootBuiltins x = some (.type id)) (ha : SA X A G cs (e :: es) ies) (hn : x ≠ "__name__" := by decide)
    (hdb : (x == ("__debug__" : Str)) = false := by decide) (he : starEach (e :: es) X.env = (false, eval e X.env) :: starEach es X.env := by rfl) (hpl : (backTo pos (starEach es X.env)).any (·.1) = false := by rfl) : SE X A G cs (.Call (.Name x p) (e :: es) [] pos) (.fn b ies) := by
  refine ⟨fun pins s σ H F ρ o ρ' I R h => ?_⟩
  unfold ev at h
  obtain ⟨⟨as, ρ1⟩, e1, h⟩ := Option.bind_eq_some_iff.mp h
  obtain ⟨ds, e2, h⟩ := Option.bind_eq_some_iff.mp h
  obtain ⟨o2, e3, h⟩ := Option.map_eq_some_iff.mp h
  cases h
  refine wpAny_Call_Name_kw (ld_blt I hg hm hv ?_ hn hdb)
  exact PyProof.Rows.callWith_type1 (thn (ha.run pos pins s σ H F ρ as _ I R e1) fun us s1 ⟨vs, H1, I1, r1, F1, x1, R1, av⟩ => thn (hb A G pins s1 σ H1 F1 _ vs us ds o I1 R1 r1 (av.asD e2).pk e3) fun u s' h => ext_ep x1 h) he hpl
/-- f(x), x looked at -/
theorem pa_look {i : Nat} {y : Str} {q pos : Pos} {v : V} (I : Inv X pins σ H s) (h : σ[i]? = some (some v)) (hN : X.N[i]? = some y) (hvi : Vis X.env.scope y) (hd : (y == ("__debug__" : Str)) = false) (hcd : (y == ("__classdict__" : Str)) = false)
    (he : starEach [Expr.Name y q] X.env = (false, eval (.Name y q) X.env) :: starEach [] X.env) : wpAny (model X.prog X.w) X.A (spliced (backTo pos (starEach [Expr.Name y q] X.env))) (fun us s' => ∃ u, us = [u] ∧ Inv X pins σ H s' ∧ RelV v u) X.xe s :=
  thn ((pa_cons (pe_var hN hvi hd hcd) pa_nil he).run pos pins s σ H (fun vs H' => vs = [v] ∧ H' = H) I ⟨v, h, rfl, rfl⟩) fun us s' ⟨vs, H', I', r, e1, e2⟩ => by
    subst e1 e2
    obtain ⟨u, rfl, ru⟩ := vals1 r
    exact ⟨u, rfl, I', ru⟩
theorem se_fnvB {id : String} {b : Blt} {x y : Str} {i : Nat} {p q pos : Pos} (hb : BltR X (.builtin id) b) (hg : Gl X x) (hm : X.mg x = none) (hv : bootBuiltins x = some (.builtin id)) (hN : X.N[i]? = some y := by rfl)
    (hvi : Vis X.env.scope y := by first | exact Or.inl rfl | exact Or.inr (Or.inl rfl) | exact Or.inr (Or.inr rfl)) (hd : (y == ("__debug__" : Str)) = false := by decide) (hcd : (y == ("__classdict__" : Str)) = false := by decide) (hn : x ≠ "__name__" := by decide)
    (hdb : (x == ("__debug__" : Str)) = false := by decide) (he : starEach [Expr.Name y q] X.env = (false, eval (.Name y q) X.env) :: starEach [] X.env := by rfl) (hpl : (backTo pos (starEach [] X.env)).any (·.1) = false := by rfl) : SE X A G cs (.Call (.Name x p) [.Name y q] [] pos) (.fnv b i) := by
  refine ⟨fun pins s σ H F ρ o ρ' I R h => ?_⟩
  unfold ev at h
  obtain ⟨o1, e1, h⟩ := Option.bind_eq_some_iff.mp h
  obtain ⟨o2, e3, h⟩ := Option.map_eq_some_iff.mp h
  cases h
  obtain ⟨v, h0, pk⟩ := R.pk e1
  refine wpAny_Call_Name_kw (ld_blt I hg hm hv ?_ hn hdb)
  exact PyProof.Rows.callWith_builtin1 (thn (pa_look I h0 hN hvi hd hcd he) fun us s1 ⟨u, eu, I1, ru⟩ => by subst eu; exact hb A G pins s1 σ H F _ [v] [u] _ o I1 R (.cons ru .nil) (.cons pk .nil) e3) he hpl
theorem se_fnvT {id : String} {b : Blt} {x y : Str} {i : Nat} {p q pos : Pos} (hb : BltR X (.type id) b) (hg : Gl X x) (hm : X.mg x = none) (hv : bootBuiltins x = some (.type id)) (hN : X.N[i]? = some y := by rfl)
    (hvi : Vis X.env.scope y := by first | exact Or.inl rfl | exact Or.inr (Or.inl rfl) | exact Or.inr (Or.inr rfl)) (hd : (y == ("__debug__" : Str)) = false := by decide) (hcd : (y == ("__classdict__" : Str)) = false := by decide) (hn : x ≠ "__name__" := by decide)
    (hdb : (x == ("__debug__" : Str)) = false := by decide) (he : starEach [Expr.Name y q] X.env = (false, eval (.Name y q) X.env) :: starEach [] X.env := by rfl) (hpl : (backTo pos (starEach [] X.env)).any (·.1) = false := by rfl) : SE X A G cs (.Call (.Name x p) [.Name y q] [] pos) (.fnv b i) := by
  refine ⟨fun pins s σ H F ρ o ρ' I R h => ?_⟩
  unfold ev at h
  obtain ⟨o1, e1, h⟩ := Option.bind_eq_some_iff.mp h
  obtain ⟨o2, e3, h⟩ := Option.map_eq_some_iff.mp h
  cases h
  obtain ⟨v, h0, pk⟩ := R.pk e1
  refine wpAny_Call_Name_kw (ld_blt I hg hm hv ?_ hn hdb)
  exact PyProof.Rows.callWith_type1 (thn (pa_look I h0 hN hvi hd hcd he) fun us s1 ⟨u, eu, I1, ru⟩ => by subst eu; exact hb A G pins s1 σ H F _ [v] [u] _ o I1 R (.cons ru .nil) (.cons pk .nil) e3) he hpl

/-! ### isinstance -/
def tyOk (t : String) : Bool := ["int", "bool", "str", "list", "tuple", "dict"].contains t
theorem kit_str : ∀ k ∈ ["NoneType", "bool", "int", "str", "list", "tuple", "dict"], ∀ t ∈ ["int", "bool", "str", "list", "tuple", "dict"], kitB k t = some (k == t || (t == "int" && k == "bool")) := by decide +kernel
theorem kind_mem (d : PyData) : kindD d ∈ ["NoneType", "bool", "int", "str", "list", "tuple", "dict"] := by
  cases d <;> simp [kindD]
theorem kit_data {K : Frag} (d : PyData) (t : String) (h : tyOk t = true) : PySem.W.kitOne K (.type (kindD d)) (.type t) = some (isi1 d t) := by
  have hm : t ∈ ["int", "bool", "str", "list", "tuple", "dict"] := by
    unfold tyOk at h
    exact List.contains_iff_mem.mp h
  exact kit_ty (kit_str _ (kind_mem d) _ hm)
theorem kit_all {K : Frag} (d : PyData) : ∀ (ts : List String), ts.all tyOk = true → PySem.W.kitAny K (.type (kindD d)) (ts.map Value.type) = some (isiD d ts)
  | [], _ => kitAny_nil
  | t :: ts, h => by
    rw [List.all_cons, Bool.and_eq_true] at h
    refine kitAny_cons (kit_data d t h.1) (fun e => ?_) fun e => ?_
    · unfold isiD
      rw [List.any_cons, e, Bool.false_or]
      exact kit_all d ts h.2
    · unfold isiD
      rw [List.any_cons, e, Bool.true_or]
end
end Ev
set_option Elab.async false
set_option linter.all false
set_option maxRecDepth 100000
/-! Ev7: isinstance, tests, a if t else b, pop. -/
namespace Ev
open PySem PySem.Spec PyProof.Rows L2
section
variable {X : Cx} {A : List (Nat × Addr)} {G : Hp} {cs : CS} {pins : List (Addr × Obj)} {s : Shared} {σ : L2.St} {H F : Hp} {ρ ρ' : Env} {o : Ov}
/-! ### isinstance -/
/-- the second argument: a built-in type's name, or a tuple of such -/
def tTys (ts : List String) : TA := fun _ H Q => Q (ts.map V.ty) H
theorem pa_ty0 : PA X [] (tTys []) := pa_nil
theorem pa_ty {t : String} {ts : List String} {p : Pos} {es : List Expr} {x : Str} (hg : Gl X x) (hm : X.mg x = none) (hv : bootBuiltins x = some (.type t)) (hr : PA X es (tTys ts)) (hn : x ≠ "__name__" := by decide) (hd : (x == ("__debug__" : Str)) = false := by decide)
    (hs : starEach (Expr.Name x p :: es) X.env = (false, eval (.Name x p) X.env) :: starEach es X.env := by rfl) : PA X (.Name x p :: es) (tTys (t :: ts)) :=
  pa_cons (te := tC (.ty t)) (pe_bltn hg hm hv rfl hn hd) hr hs
theorem clsV_all : ∀ ts : List String, Paired ClsV (ts.map V.ty) (ts.map Value.type)
  | [] => .nil
  | t :: ts => .cons (.ty t) (clsV_all ts)
theorem isi_post {v : V} {d : PyData} {ts : List String} {p : Addr} (R : Rel X.K A G F H σ ρ) (h : Pk X.K F H v d) (hts : ts.all tyOk = true) (hp : H p = none) :
    rIsiT X.K [v, .ref p] (upd H p (.tup (ts.map V.ty))) (Post X.K A G F σ ρ (.imm (.bool (isiD d ts)))) := by
  have R2 := R.grow (same_upd (o := .tup (ts.map V.ty)) hp)
  have h2 : Pk X.K F (upd H p (.tup (ts.map V.ty))) v d := by
    rcases h with h | ⟨a, vs, xs, e1, e2, h1, h2⟩
    · exact .inl h
    · exact .inr ⟨a, vs, xs, e1, e2, same_upd hp _ _ h1, h2⟩
  exact ⟨v, p, _, _, _, _, rfl, upd_same, clsV_all ts, h2.tyOf R2.sub, kit_all d ts hts, R2.post (.bl _)⟩
theorem se_isi {t : String} {a b : Expr} {ia : IE} {p pos : Pos} (ha : SE X A G cs a ia) (hb : PA X [b] (tTys [t])) (hm : X.mg "isinstance" = none) (hts : tyOk t = true := by rfl) (hg : Gl X "isinstance" := by rfl)
    (he : starEach [a, b] X.env = (false, eval a X.env) :: starEach [b] X.env := by rfl) (hpl : (backTo pos (starEach [b] X.env)).any (·.1) = false := by rfl) : SE X A G cs (.Call (.Name "isinstance" p) [a, b] [] pos) (.isi ia [t]) := by
  refine ⟨fun pins s σ H F ρ o ρ' I R h => ?_⟩
  unfold ev at h
  obtain ⟨⟨o1, ρ1⟩, e1, h⟩ := Option.map_eq_some_iff.mp h
  cases h
  refine (pe_callB call_isi hg hm PyProof.Rows.boot_isinstance (pa_cons ha.pe hb he) (by decide) (by decide) he hpl).run pins s σ H _ I ⟨F, ρ, o1, _, R, e1, fun v H1 _ pp => ?_⟩
  obtain ⟨F1, x1, R1, d1⟩ := pp.toD
  have k := kit_data (K := X.K) o1.d t hts
  refine ⟨v, .ty t, _, _, _, rfl, .ty t, Pk.tyOf R1.sub (.inl d1), k, ?_⟩
  have e : isiD o1.d [t] = isi1 o1.d t := by unfold isiD; simp
  have q := (R1.post (Dn.bl (isi1 o1.d t))).ext x1
  rw [← e] at q ⊢
  exact q
theorem se_isiv {t : String} {i : Nat} {y : Str} {q : Pos} {b : Expr} {p pos : Pos} (hb : PA X [b] (tTys [t])) (hm : X.mg "isinstance" = none) (hts : tyOk t = true := by rfl) (hg : Gl X "isinstance" := by rfl) (hN : X.N[i]? = some y := by rfl)
    (hvi : Vis X.env.scope y := by first | exact Or.inl rfl | exact Or.inr (Or.inl rfl) | exact Or.inr (Or.inr rfl)) (hd : (y == ("__debug__" : Str)) = false := by decide) (hcd : (y == ("__classdict__" : Str)) = false := by decide)
    (he : starEach [.Name y q, b] X.env = (false, eval (.Name y q) X.env) :: starEach [b] X.env := by rfl) (hpl : (backTo pos (starEach [b] X.env)).any (·.1) = false := by rfl) : SE X A G cs (.Call (.Name "isinstance" p) [.Name y q, b] [] pos) (.isiv i [t]) := by
  refine ⟨fun pins s σ H F ρ o ρ' I R h => ?_⟩
  unfold ev at h
  obtain ⟨o1, e1, h⟩ := Option.map_eq_some_iff.mp h
  cases h
  obtain ⟨v, h0, pk⟩ := R.pk e1
  refine (pe_callB call_isi hg hm PyProof.Rows.boot_isinstance (pa_cons (pe_var hN hvi hd hcd) hb he) (by decide) (by decide) he hpl).run pins s σ H _ I ⟨v, h0, ?_⟩
  refine ⟨v, .ty t, _, _, _, rfl, .ty t, pk.tyOf R.sub, kit_data (K := X.K) o1.d t hts, ?_⟩
  have e : isiD o1.d [t] = isi1 o1.d t := by unfold isiD; simp
  have q := R.post (Dn.bl (isi1 o1.d t))
  rw [← e] at q ⊢
  exact q
theorem tys_len {ts : List String} (h : ts.length ≤ 8) : (ts.map V.ty).length ≤ sizeLine := by
  rw [List.length_map, sizeLine_eq]; omega
theorem se_isiT {ts : List String} {a : Expr} {es : List Expr} {k : Nat} {tp : Pos} {ia : IE} {p pos : Pos} (ha : SE X A G cs a ia) (hb : PA X es (tTys ts)) (hm : X.mg "isinstance" = none) (hts : ts.all tyOk = true := by rfl) (hl : ts.length ≤ 8 := by decide) (hg : Gl X "isinstance" := by rfl)
    (he : starEach [a, .Tuple es k tp] X.env = (false, eval a X.env) :: starEach [.Tuple es k tp] X.env := by rfl) (he2 : starEach [.Tuple es k tp] X.env = (false, eval (.Tuple es k tp) X.env) :: starEach [] X.env := by rfl) (hpl : (backTo pos (starEach [.Tuple es k tp] X.env)).any (·.1) = false := by rfl) :
    SE X A G cs (.Call (.Name "isinstance" p) [a, .Tuple es k tp] [] pos) (.isi ia ts) := by
  refine ⟨fun pins s σ H F ρ o ρ' I R h => ?_⟩
  unfold ev at h
  obtain ⟨⟨o1, ρ1⟩, e1, h⟩ := Option.map_eq_some_iff.mp h
  cases h
  refine (pe_callB call_isiT hg hm PyProof.Rows.boot_isinstance (pa_cons ha.pe (pa_cons (pe_tup hb) pa_nil he2) he) (by decide) (by decide) he hpl).run pins s σ H _ I ⟨F, ρ, o1, _, R, e1, fun v H1 _ pp => ⟨tys_len hl, fun q hq => ?_⟩⟩
  obtain ⟨F1, x1, R1, d1⟩ := pp.toD
  obtain ⟨z1, z2, z3, z4, z5, z6, z7, z8, z9, z10, z11, z12⟩ := isi_post R1 (.inl d1) hts hq
  exact ⟨z1, z2, z3, z4, z5, z6, z7, z8, z9, z10, z11, z12.ext x1⟩
theorem se_isivT {ts : List String} {i : Nat} {y : Str} {yp : Pos} {es : List Expr} {k : Nat} {tp : Pos} {p pos : Pos} (hb : PA X es (tTys ts)) (hm : X.mg "isinstance" = none) (hts : ts.all tyOk = true := by rfl) (hl : ts.length ≤ 8 := by decide) (hg : Gl X "isinstance" := by rfl) (hN : X.N[i]? = some y := by rfl)
    (hvi : Vis X.env.scope y := by first | exact Or.inl rfl | exact Or.inr (Or.inl rfl) | exact Or.inr (Or.inr rfl)) (hd : (y == ("__debug__" : Str)) = false := by decide) (hcd : (y == ("__classdict__" : Str)) = false := by decide)
    (he : starEach [.Name y yp, .Tuple es k tp] X.env = (false, eval (.Name y yp) X.env) :: starEach [.Tuple es k tp] X.env := by rfl) (he2 : starEach [.Tuple es k tp] X.env = (false, eval (.Tuple es k tp) X.env) :: starEach [] X.env := by rfl)
    (hpl : (backTo pos (starEach [.Tuple es k tp] X.env)).any (·.1) = false := by rfl) : SE X A G cs (.Call (.Name "isinstance" p) [.Name y yp, .Tuple es k tp] [] pos) (.isiv i ts) := by
  refine ⟨fun pins s σ H F ρ o ρ' I R h => ?_⟩
  unfold ev at h
  obtain ⟨o1, e1, h⟩ := Option.map_eq_some_iff.mp h
  cases h
  obtain ⟨v, h0, pk⟩ := R.pk e1
  exact (pe_callB call_isiT hg hm PyProof.Rows.boot_isinstance (pa_cons (pe_var hN hvi hd hcd) (pa_cons (pe_tup hb) pa_nil he2) he) (by decide) (by decide) he hpl).run pins s σ H _ I ⟨v, h0, tys_len hl, fun q hq => isi_post R pk hts hq⟩

/-! ### comparisons -/
def CmpR (X : Cx) (op : CmpOp) (c : COp) : Prop :=
  ∀ (A : List (Nat × Addr)) (G : Hp) (pins : List (Addr × Obj)) (s : Shared) (σ : L2.St) (H F : Hp) (ρ : Env) (v1 v2 : V) (u1 u2 : Value) (d1 d2 : PyData) (b : Bool), Inv X pins σ H s → Rel X.K A G F H σ ρ → RelV v1 u1 → RelV v2 u2 → Dn X.K F v1 d1 → Dn X.K F v2 d2 →
    cmpD c d1 d2 = some b → wpAny (model X.prog X.w) X.A (compareOp op u1 u2) (EP X pins σ fun v H' => v = .bl b ∧ H' = H) X.xe s
theorem eqD_some {a b : PyData} {k : Bool} (h : eqD a b = some k) : SeqAt.shaped a = true ∧ SeqAt.shaped b = true ∧ k = PyData.eqv a b := by
  unfold eqD at h
  split at h
  · rename_i z
    cases h
    rw [Bool.and_eq_true] at z
    exact ⟨z.1, z.2, rfl⟩
  · cases h
theorem cm_eq (hu : X.A.units + 64 < cLine) : CmpR X .Eq .eq := by
  intro A G pins s σ H F ρ v1 v2 u1 u2 d1 d2 b I R r1 r2 h1 h2 e
  obtain ⟨z1, z2, rfl⟩ := eqD_some (show eqD d1 d2 = some b from by unfold cmpD at e; exact e)
  exact op_eqD hu pins s σ H _ _ u1 u2 _ I r1 r2 ⟨d1, d2, dp_mono R.sub (h1.dp (SeqAt.canLay_of_shaped z1)), dp_mono R.sub (h2.dp (SeqAt.canLay_of_shaped z2)), z1, z2, rfl, rfl⟩
theorem cm_ne (hu : X.A.units + 64 < cLine) : CmpR X .NotEq .ne := by
  intro A G pins s σ H F ρ v1 v2 u1 u2 d1 d2 b I R r1 r2 h1 h2 e
  obtain ⟨k, e1, rfl⟩ := Option.map_eq_some_iff.mp (show (eqD d1 d2).map (!·) = some b from by unfold cmpD at e; exact e)
  obtain ⟨z1, z2, rfl⟩ := eqD_some e1
  exact op_neD hu pins s σ H _ _ u1 u2 _ I r1 r2 ⟨d1, d2, dp_mono R.sub (h1.dp (SeqAt.canLay_of_shaped z1)), dp_mono R.sub (h2.dp (SeqAt.canLay_of_shaped z2)), z1, z2, rfl, rfl⟩
theorem cm_lt : CmpR X .Lt .lt := by
  intro A G pins s σ H F ρ v1 v2 u1 u2 d1 d2 b I R r1 r2 h1 h2 e
  unfold cmpD at e
  split at e <;> first | (cases e; done) | skip
  all_goals (rename_i q; cases q)
  cases e; cases h1; cases h2
  exact op_lt pins s σ H _ _ u1 u2 _ I r1 r2 ⟨_, _, rfl, rfl, rfl, rfl⟩
theorem cm_le : CmpR X .LtE .le := by
  intro A G pins s σ H F ρ v1 v2 u1 u2 d1 d2 b I R r1 r2 h1 h2 e
  unfold cmpD at e
  split at e <;> first | (cases e; done) | skip
  all_goals (rename_i q; cases q)
  cases e; cases h1; cases h2
  exact op_le pins s σ H _ _ u1 u2 _ I r1 r2 ⟨_, _, rfl, rfl, rfl, rfl⟩
theorem cm_gt : CmpR X .Gt .gt := by
  intro A G pins s σ H F ρ v1 v2 u1 u2 d1 d2 b I R r1 r2 h1 h2 e
  unfold cmpD at e
  split at e <;> first | (cases e; done) | skip
  all_goals (rename_i q; cases q)
  cases e; cases h1; cases h2
  exact op_gt pins s σ H _ _ u1 u2 _ I r1 r2 ⟨_, _, rfl, rfl, rfl, rfl⟩
theorem cm_ge : CmpR X .GtE .ge := by
  intro A G pins s σ H F ρ v1 v2 u1 u2 d1 d2 b I R r1 r2 h1 h2 e
  unfold cmpD at e
  split at e <;> first | (cases e; done) | skip
  all_goals (rename_i q; cases q)
  cases e; cases h1; cases h2
  exact op_ge pins s σ H _ _ u1 u2 _ I r1 r2 ⟨_, _, rfl, rfl, rfl, rfl⟩
theorem isNone_V {K : Frag} {F : Hp} {v : V} {d : PyData} (h : Dn K F v d) : decide (v = .non) = isNone d := by
  cases h <;> simp [isNone]
theorem cm_is : CmpR X .Is .isN := by
  intro A G pins s σ H F ρ v1 v2 u1 u2 d1 d2 b I R r1 r2 h1 h2 e
  unfold cmpD at e
  split at e <;> first | (cases e; done) | skip
  all_goals (rename_i q; cases q)
  cases e; cases h2
  exact op_isN pins s σ H _ _ u1 u2 _ I r1 r2 ⟨rfl, by rw [isNone_V h1], rfl⟩
theorem cm_isn : CmpR X .IsNot .isnN := by
  intro A G pins s σ H F ρ v1 v2 u1 u2 d1 d2 b I R r1 r2 h1 h2 e
  unfold cmpD at e
  split at e <;> first | (cases e; done) | skip
  all_goals (rename_i q; cases q)
  cases e; cases h2
  exact op_notN pins s σ H _ _ u1 u2 _ I r1 r2 ⟨rfl, by rw [isNone_V h1], rfl⟩
theorem flat_V {K : Frag} {F : Hp} {v : V} {d : PyData} (h : Dn K F v d) (f : flatD d = true) : flatV v = true := by
  cases h <;> first | rfl | cases f
theorem flats_V {K : Frag} {F : Hp} : ∀ {vs : List V} {ds : List PyData}, DnA K F vs ds → ds.all flatD = true → vs.all flatV = true
  | _, _, .nil, _ => rfl
  | _, _, .cons h q, f => by
    rw [List.all_cons, Bool.and_eq_true] at f
    rw [List.all_cons, flat_V h f.1, flats_V q f.2]
    rfl
theorem eqV_D {K : Frag} {F : Hp} {v1 v2 : V} {d1 d2 : PyData} (h1 : Dn K F v1 d1) (h2 : Dn K F v2 d2) (f1 : flatD d1 = true) (f2 : flatD d2 = true) : eqV v1 v2 = PyData.eqv d1 d2 := by
  cases h1 <;> first | (cases f1; done) | skip
  all_goals (cases h2 <;> first | (cases f2; done) | rfl)
theorem inV_D {K : Frag} {F : Hp} {x : V} {d : PyData} (h : Dn K F x d) (f : flatD d = true) : ∀ {vs : List V} {ds : List PyData}, DnA K F vs ds → ds.all flatD = true → inV x vs = ds.any fun y => PyData.eqv y d
  | _, _, .nil, _ => rfl
  | _, _, .cons h' q, g => by
    rw [List.all_cons, Bool.and_eq_true] at g
    show (eqV _ x || inV x _) = _
    rw [List.any_cons, eqV_D h' h g.1 f, inV_D h f q g.2]
theorem inD_some {d : PyData} {ds : List PyData} {b : Bool} (h : inD d ds = some b) : flatD d = true ∧ ds.all flatD = true ∧ b = ds.any fun y => PyData.eqv y d := by
  unfold inD at h
  split at h
  · rename_i z
    rw [Bool.and_eq_true] at z
    cases h
    exact ⟨z.1, z.2, rfl⟩
  · cases h
theorem in_seq {K : Frag} {F H : Hp} {x : V} {d : PyData} {p : Addr} {vs : List V} {ds : List PyData} {b : Bool} {neg : Bool} {Q : VK} (h : Dn K F x d) (hs : SqL K H p vs ∨ SqT K H p vs) (da : DnA K F vs ds) (e : inD d ds = some b) (q : Q (.bl (if neg then !b else b)) H) : rIn K neg x (.ref p) H Q := by
  obtain ⟨z1, z2, rfl⟩ := inD_some e
  refine ⟨p, vs, rfl, hs, flat_V h z1, flats_V da z2, ?_⟩
  rw [inV_D h z1 da z2]
  exact q
theorem cm_in : CmpR X .In .isin := by
  intro A G pins s σ H F ρ v1 v2 u1 u2 d1 d2 b I R r1 r2 h1 h2 e
  unfold cmpD at e
  cases h2 with
  | str y =>
    cases h1 with
    | str x =>
      cases e
      exact op_in_str pins s σ H _ _ u1 u2 _ I r1 r2 ⟨_, _, rfl, rfl, rfl, rfl⟩
    | _ => cases e
  | lst hF da => exact op_in_seq pins s σ H _ _ u1 u2 _ I r1 r2 (in_seq h1 (.inl (SqL.of (R.sub _ _ hF))) da (by cases d1 <;> exact e) ⟨rfl, rfl⟩)
  | tup hF da => exact op_in_seq pins s σ H _ _ u1 u2 _ I r1 r2 (in_seq h1 (.inr (sqT_same R.sub hF)) da (by cases d1 <;> exact e) ⟨rfl, rfl⟩)
  | _ => cases d1 <;> cases e
theorem cm_nin : CmpR X .NotIn .nin := by
  intro A G pins s σ H F ρ v1 v2 u1 u2 d1 d2 b I R r1 r2 h1 h2 e
  unfold cmpD at e
  cases h2 with
  | str y =>
    cases h1 with
    | str x =>
      cases e
      exact op_notin_str pins s σ H _ _ u1 u2 _ I r1 r2 ⟨_, _, rfl, rfl, rfl, rfl⟩
    | _ => cases e
  | lst hF da =>
    obtain ⟨k, e1, rfl⟩ := Option.map_eq_some_iff.mp (show (inD d1 _).map (!·) = some b from by cases d1 <;> exact e)
    exact op_notIn_seq pins s σ H _ _ u1 u2 _ I r1 r2 (in_seq h1 (.inl (SqL.of (R.sub _ _ hF))) da e1 ⟨rfl, rfl⟩)
  | tup hF da =>
    obtain ⟨k, e1, rfl⟩ := Option.map_eq_some_iff.mp (show (inD d1 _).map (!·) = some b from by cases d1 <;> exact e)
    exact op_notIn_seq pins s σ H _ _ u1 u2 _ I r1 r2 (in_seq h1 (.inr (sqT_same R.sub hF)) da e1 ⟨rfl, rfl⟩)
  | _ => cases d1 <;> cases e
theorem sb_cmp {op : CmpOp} {c : COp} {a b : Expr} {ia ib : IE} {pos : Pos} (hc : CmpR X op c) (ha : SE X A G cs a ia) (hb : SE X A G cs b ib) (hm : behindInMarks op b = false) : SB X A G cs (.Compare a [op] [b] pos) (.cmp c ia ib) := by
  refine ⟨fun pins s σ H F ρ k ρ' I R e => ?_⟩
  unfold evT at e
  obtain ⟨⟨o1, ρ1⟩, e1, e⟩ := Option.bind_eq_some_iff.mp e
  obtain ⟨⟨o2, ρ2⟩, e2, e⟩ := Option.bind_eq_some_iff.mp e
  obtain ⟨k', e3, e⟩ := Option.map_eq_some_iff.mp e
  cases e
  refine wpAny_Compare1 (ha.on I R e1 fun u1 s1 v1 H1 F1 I1 r1 x1 R1 d1 => hb.on I1 R1 e2 fun u2 s2 v2 H2 F2 I2 r2 x2 R2 d2 => ?_) hm
  exact thn (hc A G pins s2 σ H2 F2 _ v1 v2 u1 u2 _ _ k I2 R2 r1 r2 (d1.mono x2.le) d2 e3) fun u s' ⟨v, H', I', r, q1, q2⟩ => by
    subst q1 q2
    exact ⟨_, _, I', r, F2, x1.trans x2, R2, .bl k⟩
theorem st_cmp {op : CmpOp} {c : COp} {a b : Expr} {ia ib : IE} {pos : Pos} (hc : CmpR X op c) (ha : SE X A G cs a ia) (hb : SE X A G cs b ib) (hm : behindInMarks op b = false) : ST X A G cs (.Compare a [op] [b] pos) (.cmp c ia ib) := by
  refine ⟨fun pins s σ H F ρ k ρ' I R e => ?_⟩
  unfold evT at e
  obtain ⟨⟨o1, ρ1⟩, e1, e⟩ := Option.bind_eq_some_iff.mp e
  obtain ⟨⟨o2, ρ2⟩, e2, e⟩ := Option.bind_eq_some_iff.mp e
  obtain ⟨k', e3, e⟩ := Option.map_eq_some_iff.mp e
  cases e
  refine wpAny_isTrue_Compare1 (ha.on I R e1 fun u1 s1 v1 H1 F1 I1 r1 x1 R1 d1 => hb.on I1 R1 e2 fun u2 s2 v2 H2 F2 I2 r2 x2 R2 d2 => ?_) hm
  exact thn (hc A G pins s2 σ H2 F2 _ v1 v2 u1 u2 _ _ k I2 R2 r1 r2 (d1.mono x2.le) d2 e3) fun u s' ⟨v, H', I', r, q1, q2⟩ => by
    subst q1 q2
    cases r
    exact wpAny_truthy_bool ⟨_, I', rfl, F2, x1.trans x2, R2⟩
/-- a < b < c on ints -/
def intC : COp → Option (Int → Int → Bool)
  | .lt => some fun i j => decide (i < j)
  | .le => some fun i j => decide (i ≤ j)
  | .gt => some fun i j => decide (j < i)
  | .ge => some fun i j => decide (j ≤ i)
  | _ => none
theorem intC_ok {c : COp} {f : Int → Int → Bool} (h : intC c = some f) {d1 d2 : PyData} {k : Bool} (e : cmpD c d1 d2 = some k) : ∃ i j, d1 = .int i ∧ d2 = .int j ∧ k = f i j := by
  cases c <;> first | (cases h; done) | skip
  all_goals
    cases h
    unfold cmpD at e
    split at e <;> first | (cases e; done) | skip
    all_goals (rename_i q; cases q)
    cases e
    exact ⟨_, _, rfl, rfl, rfl⟩
theorem chain_read {ia ib ic : IE} {c1 c2 : COp} {f1 f2 : Int → Int → Bool} {k : Bool} {Q : VK} (h1 : intC c1 = some f1) (h2 : intC c2 = some f2) (R : Rel X.K A G F H σ ρ) (e : evT cs (.chain c1 c2 ia ib ic) ρ = some (k, ρ'))
    (q : ∀ F' H', Ext G F F' → Rel X.K A G F' H' σ ρ' → Q (.bl k) H') : tChain (rI0 fun i j => .bl (f1 i j)) (rI0 fun i j => .bl (f2 i j)) (tEv X.K A G cs ia) (tEv X.K A G cs ib) (tEv X.K A G cs ic) σ H Q := by
  unfold evT at e
  obtain ⟨⟨o1, ρ1⟩, e1, e⟩ := Option.bind_eq_some_iff.mp e
  obtain ⟨⟨o2, ρ2⟩, e2, e⟩ := Option.bind_eq_some_iff.mp e
  obtain ⟨k1, e3, e⟩ := Option.bind_eq_some_iff.mp e
  obtain ⟨i, j, z1, z2, rfl⟩ := intC_ok h1 e3
  refine ⟨F, ρ, o1, ρ1, R, e1, fun v1 H1 _ p1 => ?_⟩
  obtain ⟨F1, x1, R1, d1⟩ := p1.toD
  refine ⟨F1, ρ1, o2, ρ2, R1, e2, fun v2 H2 _ p2 => ?_⟩
  obtain ⟨F2, x2, R2, d2⟩ := p2.toD
  rw [z1] at d1
  rw [z2] at d2
  cases d1
  cases d2
  refine ⟨i, j, rfl, rfl, _, rfl, ?_⟩
  cases hk : f1 i j with
  | false =>
    rw [hk] at e
    cases e
    rw [if_neg Bool.false_ne_true]
    exact q F2 H2 (x1.trans x2) R2
  | true =>
    rw [hk] at e
    obtain ⟨⟨o3, ρ3⟩, e4, e⟩ := Option.bind_eq_some_iff.mp e
    obtain ⟨k2, e5, e⟩ := Option.map_eq_some_iff.mp e
    cases e
    rw [z2] at e5
    obtain ⟨i2, j2, z3, z4, rfl⟩ := intC_ok h2 e5
    cases z3
    rw [if_pos rfl]
    refine ⟨F2, ρ2, o3, _, R2, e4, fun v3 H3 _ p3 => ?_⟩
    obtain ⟨F3, x3, R3, d3⟩ := p3.toD
    rw [z4] at d3
    cases d3
    exact ⟨_, _, rfl, rfl, q F3 H3 (x1.trans (x2.trans x3)) R3⟩
theorem st_chain {op1 op2 : CmpOp} {c1 c2 : COp} {f1 f2 : Int → Int → Bool} {a b c : Expr} {ia ib ic : IE} {pos : Pos} (ho1 : OpR X (compareOp op1) (rI0 fun i j => .bl (f1 i j))) (ho2 : OpR X (compareOp op2) (rI0 fun i j => .bl (f2 i j))) (h1 : intC c1 = some f1) (h2 : intC c2 = some f2)
    (ha : SE X A G cs a ia) (hb : SE X A G cs b ib) (hc : SE X A G cs c ic) (hm : lastMarks [op1, op2] [b, c] = false := by with_unfolding_all rfl) : ST X A G cs (.Compare a [op1, op2] [b, c] pos) (.chain c1 c2 ia ib ic) :=
  ⟨fun pins s σ H F ρ k ρ' I R e => (pt_chain ho1 ho2 ha.pe hb.pe hc.pe hm).run pins s σ H _ I (chain_read h1 h2 R e fun F' H' x R' => ⟨k, rfl, rfl, F', x, R'⟩)⟩
theorem sb_chain {op1 op2 : CmpOp} {c1 c2 : COp} {f1 f2 : Int → Int → Bool} {a b c : Expr} {ia ib ic : IE} {pos : Pos} (ho1 : OpR X (compareOp op1) (rI0 fun i j => .bl (f1 i j))) (ho2 : OpR X (compareOp op2) (rI0 fun i j => .bl (f2 i j))) (h1 : intC c1 = some f1) (h2 : intC c2 = some f2)
    (ha : SE X A G cs a ia) (hb : SE X A G cs b ib) (hc : SE X A G cs c ic) (hm : lastMarks [op1, op2] [b, c] = false := by with_unfolding_all rfl) : SB X A G cs (.Compare a [op1, op2] [b, c] pos) (.chain c1 c2 ia ib ic) :=
  ⟨fun pins s σ H F ρ k ρ' I R e => (pe_chain ho1 ho2 ha.pe hb.pe hc.pe hm).run pins s σ H _ I (chain_read h1 h2 R e fun F' H' x R' => ⟨F', x, R', .bl k⟩)⟩

/-! ### and, or, not -/
theorem SW.st {e : Expr} {it : IT} (h : SW X A G cs e it) : ST X A G cs e it := ⟨fun pins s σ H F ρ b ρ' I R he => h.run _ pins s σ H F ρ b ρ' I R he⟩
theorem sw_and1 {a : Expr} {ia : IT} {pos : Pos} (ha : ST X A G cs a ia) : SW X A G cs (.BoolOp .And [a] pos) ia := by
  refine ⟨fun wh pins s σ H F ρ b ρ' I R e => ?_⟩
  refine isTrue_and (thn (ha.run pins s σ H F ρ b ρ' I R e) fun c s1 q => ?_)
  cases c with
  | true => exact isTrue_and_nil q
  | false => exact q
theorem sw_or1 {a : Expr} {ia : IT} {pos : Pos} (ha : ST X A G cs a ia) : SW X A G cs (.BoolOp .Or [a] pos) ia := by
  refine ⟨fun wh pins s σ H F ρ b ρ' I R e => ?_⟩
  refine isTrue_or (thn (ha.run pins s σ H F ρ b ρ' I R e) fun c s1 q => ?_)
  cases c with
  | false => exact isTrue_or_nil q
  | true => exact q
theorem sw_and {a b : Expr} {rest : List Expr} {ia ib : IT} {pos : Pos} (ha : ST X A G cs a ia) (hb : SW X A G cs (.BoolOp .And (b :: rest) pos) ib) : SW X A G cs (.BoolOp .And (a :: b :: rest) pos) (.and ia ib) := by
  refine ⟨fun wh pins s σ H F ρ k ρ' I R e => ?_⟩
  unfold evT at e
  obtain ⟨⟨k1, ρ1⟩, e1, e⟩ := Option.bind_eq_some_iff.mp e
  refine isTrue_and (thn (ha.run pins s σ H F ρ k1 ρ1 I R e1) fun c s1 ⟨H1, I1, q, F1, x1, R1⟩ => ?_)
  subst q
  cases c with
  | true => exact thn (hb.run wh pins s1 σ H1 F1 ρ1 k ρ' I1 R1 e) fun u s' h => ext_tp x1 h
  | false => cases e; exact ⟨H1, I1, rfl, F1, x1, R1⟩
theorem sw_or {a b : Expr} {rest : List Expr} {ia ib : IT} {pos : Pos} (ha : ST X A G cs a ia) (hb : SW X A G cs (.BoolOp .Or (b :: rest) pos) ib) : SW X A G cs (.BoolOp .Or (a :: b :: rest) pos) (.or ia ib) := by
  refine ⟨fun wh pins s σ H F ρ k ρ' I R e => ?_⟩
  unfold evT at e
  obtain ⟨⟨k1, ρ1⟩, e1, e⟩ := Option.bind_eq_some_iff.mp e
  refine isTrue_or (thn (ha.run pins s σ H F ρ k1 ρ1 I R e1) fun c s1 ⟨H1, I1, q, F1, x1, R1⟩ => ?_)
  subst q
  cases c with
  | false => exact thn (hb.run wh pins s1 σ H1 F1 ρ1 k ρ' I1 R1 e) fun u s' h => ext_tp x1 h
  | true => cases e; exact ⟨H1, I1, rfl, F1, x1, R1⟩
theorem st_not {a : Expr} {ia : IT} {pos : Pos} (ha : ST X A G cs a ia) : ST X A G cs (.UnaryOp .Not a pos) (.not ia) := by
  refine ⟨fun pins s σ H F ρ k ρ' I R e => ?_⟩
  unfold evT at e
  obtain ⟨⟨k1, ρ1⟩, e1, e⟩ := Option.map_eq_some_iff.mp e
  cases e
  exact isTrue_not (thn (ha.run pins s σ H F ρ k1 _ I R e1) fun c s1 ⟨H1, I1, q, F1, x1, R1⟩ => ⟨H1, I1, by subst q; rfl, F1, x1, R1⟩)
theorem nz (n : Nat) : (n != 0) = ((n : Int) != 0) := by
  by_cases h : n = 0
  · subst h; rfl
  · have h2 : (n : Int) ≠ 0 := by omega
    rw [bne_iff_ne.mpr h, bne_iff_ne.mpr h2]
theorem tru_V {v : V} {d : PyData} {k : Bool} (s : Same F H) (h : Pk X.K F H v d) (e : truD d = some k) : TruV X.K v H k := by
  have hs : sizeLine = 16777216 := sizeLine_eq
  unfold truD at e
  split at e <;> first | (cases e; done) | skip
  · cases e; cases h.imm (fun xs q => by cases q); exact rfl
  · cases e; cases h.imm (fun xs q => by cases q); exact rfl
  · cases e; cases h.imm (fun xs q => by cases q); exact rfl
  · cases h.imm (fun xs q => by cases q)
    split at e
    · rename_i hl
      cases e
      refine ⟨by rw [← ll_eq]; exact hl, ?_⟩
      exact nz _
    · cases e
  · cases e
    obtain ⟨a, vs, rfl, a1, b1⟩ := h.lst s
    refine .inl ⟨vs, SqL.of a1, ?_⟩
    cases b1 <;> rfl
  · cases e
    cases h.imm (fun xs q => by cases q) with
    | tup a1 b1 =>
      refine .inr (.inl ⟨_, sqT_same s a1, ?_⟩)
      cases b1 <;> rfl
theorem st_val {a : Expr} {ia : IE} (ha : SE X A G cs a ia) (he : ∀ whole, isTrue a X.env whole = (do let v ← whole; standAt a.pos; holding [v] (truthy v)) := by intro _; rfl) : ST X A G cs a (.val ia) := by
  refine ⟨fun pins s σ H F ρ k ρ' I R e => ?_⟩
  unfold evT at e
  obtain ⟨⟨o1, ρ1⟩, e1, e⟩ := Option.bind_eq_some_iff.mp e
  obtain ⟨k1, e2, e⟩ := Option.map_eq_some_iff.mp e
  cases e
  refine isTrue_plain (ha.on I R e1 fun u1 s1 v1 H1 F1 I1 r1 x1 R1 d1 => ?_) (he _)
  exact tru_ok pins s1 σ H1 v1 u1 _ I1 r1 ⟨k, tru_V R1.sub (.inl d1) e2, rfl, F1, x1, R1⟩
theorem st_valv {i : Nat} {y : Str} {p : Pos} (hN : X.N[i]? = some y := by rfl) (hvi : Vis X.env.scope y := by first | exact Or.inl rfl | exact Or.inr (Or.inl rfl) | exact Or.inr (Or.inr rfl)) (hd : (y == ("__debug__" : Str)) = false := by decide)
    (hcd : (y == ("__classdict__" : Str)) = false := by decide) (he : ∀ whole, isTrue (.Name y p) X.env whole = (do let v ← whole; standAt (Expr.Name y p).pos; holding [v] (truthy v)) := by intro _; rfl) : ST X A G cs (.Name y p) (.valv i) := by
  refine ⟨fun pins s σ H F ρ k ρ' I R e => ?_⟩
  unfold evT at e
  obtain ⟨o1, e1, e⟩ := Option.bind_eq_some_iff.mp e
  obtain ⟨k1, e2, e⟩ := Option.map_eq_some_iff.mp e
  cases e
  obtain ⟨v, h0, pk⟩ := R.pk e1
  refine isTrue_plain (look_var I h0 (fun u1 s1 I1 r1 => ?_) hN hvi hd hcd) (he _)
  exact tru_ok pins s1 σ H v u1 _ I1 r1 ⟨k, tru_V R.sub pk e2, rfl, F, .refl, R⟩
/-- a value that is a bool, as a test -/
theorem boolOf_some {d : PyData} {b : Bool} (h : boolOf d = some b) : d = .bool b := by
  cases d <;> first | (cases h; rfl) | cases h
theorem sb_bv {a : Expr} {ia : IE} (ha : SE X A G cs a ia) : SB X A G cs a (.bv ia) := by
  refine ⟨fun pins s σ H F ρ k ρ' I R e => ?_⟩
  unfold evT at e
  obtain ⟨⟨o1, ρ1⟩, e1, e⟩ := Option.bind_eq_some_iff.mp e
  obtain ⟨k1, e2, e⟩ := Option.map_eq_some_iff.mp e
  cases e
  rw [← boolOf_some e2]
  exact ha.d I R e1
theorem st_bv {a : Expr} {ia : IE} (ha : SE X A G cs a ia) (he : ∀ whole, isTrue a X.env whole = (do let v ← whole; standAt a.pos; holding [v] (truthy v)) := by intro _; rfl) : ST X A G cs a (.bv ia) := by
  refine ⟨fun pins s σ H F ρ k ρ' I R e => ?_⟩
  unfold evT at e
  obtain ⟨⟨o1, ρ1⟩, e1, e⟩ := Option.bind_eq_some_iff.mp e
  obtain ⟨k1, e2, e⟩ := Option.map_eq_some_iff.mp e
  cases e
  refine isTrue_plain (ha.on I R e1 fun u1 s1 v1 H1 F1 I1 r1 x1 R1 d1 => ?_) (he _)
  rw [boolOf_some e2] at d1
  cases d1
  cases r1
  exact wpAny_truthy_bool ⟨H1, I1, rfl, F1, x1, R1⟩
/-- .. as values -/
theorem sb_one {op} {a : Expr} {ia : IT} {pos : Pos} (ha : SB X A G cs a ia) : SB X A G cs (.BoolOp op [a] pos) ia := ⟨fun pins s σ H F ρ b ρ' I R e => BoolOp_one (ha.run pins s σ H F ρ b ρ' I R e)⟩
theorem sb_and {a b : Expr} {rest : List Expr} {ia ib : IT} {pos : Pos} (ha : SB X A G cs a ia) (hb : SB X A G cs (.BoolOp .And (b :: rest) pos) ib) : SB X A G cs (.BoolOp .And (a :: b :: rest) pos) (.and ia ib) := by
  refine ⟨fun pins s σ H F ρ k ρ' I R e => ?_⟩
  unfold evT at e
  obtain ⟨⟨k1, ρ1⟩, e1, e⟩ := Option.bind_eq_some_iff.mp e
  refine BoolOp_and (thn (ha.run pins s σ H F ρ k1 ρ1 I R e1) fun v s1 ⟨x, H1, I1, r1, F1, x1, R1, d1⟩ => ?_)
  cases d1
  cases r1
  refine wpAny_truthy_bool ?_
  cases k1 with
  | true => exact thn (hb.run pins s1 σ H1 F1 ρ1 k ρ' I1 R1 e) fun u s' h => ext_epd x1 h
  | false => cases e; exact ⟨.bl false, H1, I1, rfl, F1, x1, R1, .bl _⟩
theorem sb_or {a b : Expr} {rest : List Expr} {ia ib : IT} {pos : Pos} (ha : SB X A G cs a ia) (hb : SB X A G cs (.BoolOp .Or (b :: rest) pos) ib) : SB X A G cs (.BoolOp .Or (a :: b :: rest) pos) (.or ia ib) := by
  refine ⟨fun pins s σ H F ρ k ρ' I R e => ?_⟩
  unfold evT at e
  obtain ⟨⟨k1, ρ1⟩, e1, e⟩ := Option.bind_eq_some_iff.mp e
  refine BoolOp_or (thn (ha.run pins s σ H F ρ k1 ρ1 I R e1) fun v s1 ⟨x, H1, I1, r1, F1, x1, R1, d1⟩ => ?_)
  cases d1
  cases r1
  refine wpAny_truthy_bool ?_
  cases k1 with
  | false => exact thn (hb.run pins s1 σ H1 F1 ρ1 k ρ' I1 R1 e) fun u s' h => ext_epd x1 h
  | true => cases e; exact ⟨.bl true, H1, I1, rfl, F1, x1, R1, .bl _⟩
theorem sb_not {a : Expr} {ia : IT} {pos : Pos} (ha : SB X A G cs a ia) : SB X A G cs (.UnaryOp .Not a pos) (.not ia) := by
  refine ⟨fun pins s σ H F ρ k ρ' I R e => ?_⟩
  unfold evT at e
  obtain ⟨⟨k1, ρ1⟩, e1, e⟩ := Option.map_eq_some_iff.mp e
  cases e
  refine UnaryOp_ (thn (ha.run pins s σ H F ρ k1 _ I R e1) fun v s1 ⟨x, H1, I1, r1, F1, x1, R1, d1⟩ => ?_)
  cases d1
  cases r1
  exact not_of (wpAny_truthy_bool ⟨.bl (!k1), H1, I1, rfl, F1, x1, R1, .bl _⟩)
theorem se_bt {a : Expr} {it : IT} (h : SB X A G cs a it) : SE X A G cs a (.bt it) := by
  refine ⟨fun pins s σ H F ρ o ρ' I R e => ?_⟩
  unfold ev at e
  obtain ⟨⟨k1, ρ1⟩, e1, e⟩ := Option.map_eq_some_iff.mp e
  cases e
  exact h.run pins s σ H F ρ k1 _ I R e1
theorem se_ife {c a b : Expr} {ic : IT} {ia ib : IE} {pos : Pos} (hc : ST X A G cs c ic) (ha : SE X A G cs a ia) (hb : SE X A G cs b ib) : SE X A G cs (.IfExp c a b pos) (.ife ic ia ib) := by
  refine ⟨fun pins s σ H F ρ o ρ' I R e => ?_⟩
  unfold ev at e
  obtain ⟨⟨k1, ρ1⟩, e1, e⟩ := Option.bind_eq_some_iff.mp e
  refine wpAny_IfExp (thn (hc.run pins s σ H F ρ k1 ρ1 I R e1) fun d s1 ⟨H1, I1, q, F1, x1, R1⟩ => ?_)
  subst q
  cases d with
  | true => exact thn (ha.run pins s1 σ H1 F1 ρ1 o ρ' I1 R1 e) fun u s' h => ext_ep x1 h
  | false => exact thn (hb.run pins s1 σ H1 F1 ρ1 o ρ' I1 R1 e) fun u s' h => ext_ep x1 h
/-! ### pop -/
theorem ownE_some {i : Nat} {xs : List PyData} (h : ownE ρ i = some xs) : getE ρ i = some (.own xs) := by
  unfold ownE at h
  split at h
  · rename_i q; cases h; exact q
  · cases h
theorem slot_own {i : Nat} {xs : List PyData} (R : Rel X.K A G F H σ ρ) (e : getE ρ i = some (.own xs)) : ∃ a vs, σ[i]? = some (some (.ref a)) ∧ H a = some (.lst vs) ∧ DnA X.K F vs xs := by
  obtain ⟨a, h1, _, _, vs, h2, d⟩ := R.own i xs e
  exact ⟨a, vs, h1, h2, d⟩
theorem se_pop {i : Nat} {y : Str} {p apos cpos : Pos} (hN : X.N[i]? = some y := by rfl) (hvi : Vis X.env.scope y := by first | exact Or.inl rfl | exact Or.inr (Or.inl rfl) | exact Or.inr (Or.inr rfl)) (hd : (y == ("__debug__" : Str)) = false := by decide)
    (hcd : (y == ("__classdict__" : Str)) = false := by decide) (hbase : attributeBase (.Name y p) "pop" X.env (eval (.Name y p) X.env) = eval (.Name y p) X.env := by rfl) (hline : (apos.endLine == cpos.line) = true := by rfl) :
    SE X A G cs (.Call (.Attribute (.Name y p) "pop" apos) [] [] cpos) (.pop i) := by
  refine ⟨fun pins s σ H F ρ o ρ' I R e => ?_⟩
  unfold ev at e
  split at e
  · rename_i xs e1
    obtain ⟨d, e2, e⟩ := Option.map_eq_some_iff.mp e
    cases e
    obtain ⟨a, vs, h0, h1, dv⟩ := slot_own R e1
    obtain ⟨v, g1, g2⟩ := dv.get e2
    refine (pe_bm0 PySem.F.plainAttrs_list PySem.F.slot_list_pop PySem.F.type_list_pop mt_pop (pe_var hN hvi hd hcd) hbase hline).run pins s σ H _ I ⟨_, h0, .inl ⟨rfl, _, SqL.of h1⟩, a, vs, v, rfl, rfl, h1, by rw [dv.len]; exact g1, ?_⟩
    exact ⟨F, .refl, R.write e1 h0 h1 dv.dropLast, g2⟩
  · cases e
theorem se_popa {i : Nat} {y : Str} {b : Expr} {ib : IE} {p apos cpos : Pos} (hb : SE X A G cs b ib) (hN : X.N[i]? = some y := by rfl) (hvi : Vis X.env.scope y := by first | exact Or.inl rfl | exact Or.inr (Or.inl rfl) | exact Or.inr (Or.inr rfl)) (hd : (y == ("__debug__" : Str)) = false := by decide)
    (hcd : (y == ("__classdict__" : Str)) = false := by decide) (hbase : attributeBase (.Name y p) "pop" X.env (eval (.Name y p) X.env) = eval (.Name y p) X.env := by rfl)
    (hfew : ((backTo cpos (starEach [b] X.env)).all (fun x => !x.1) && (backToKw cpos (keywordEach [] X.env)).all (fun x => x.1.isSome) && decide ([b].length + ([] : List Keyword).length + (if ([] : List Keyword).isEmpty then 0 else 1) < 30)) = true := by rfl)
    (hline : (apos.endLine == cpos.line) = true := by rfl) (hs : starEach [b] X.env = (false, eval b X.env) :: starEach [] X.env := by rfl) (hplain : (backTo cpos (starEach [] X.env)).any (·.1) = false := by rfl) :
    SE X A G cs (.Call (.Attribute (.Name y p) "pop" apos) [b] [] cpos) (.popa i ib) := by
  refine ⟨fun pins s σ H F ρ o ρ' I R e => ?_⟩
  unfold ev at e
  obtain ⟨o0, e0, e⟩ := Option.bind_eq_some_iff.mp e
  obtain ⟨⟨o1, ρ1⟩, e1, e⟩ := Option.bind_eq_some_iff.mp e
  obtain ⟨k, e2, e⟩ := Option.bind_eq_some_iff.mp e
  split at e
  · rename_i xs e3
    split at e
    · rename_i hk
      obtain ⟨j, e4, e⟩ := Option.bind_eq_some_iff.mp e
      obtain ⟨d, e5, e⟩ := Option.map_eq_some_iff.mp e
      cases e
      obtain ⟨a, vs0, h0, h1, _⟩ := slot_own R (ownE_some e0)
      refine (pe_bm PySem.F.plainAttrs_list PySem.F.slot_list_pop PySem.F.type_list_pop mt_popAt (pe_var hN hvi hd hcd) (pa_cons hb.pe pa_nil hs) hbase hfew hline hs hplain).run pins s σ H _ I ⟨_, h0, .inl ⟨rfl, _, SqL.of h1⟩, F, ρ, o1, ρ1, R, e1, fun v H1 _ pp => ?_⟩
      obtain ⟨F1, x1, R1, d1⟩ := pp.toD
      rw [intOf_some e2] at d1
      cases d1
      obtain ⟨a', vs, h0', h1', dv⟩ := slot_own R1 e3
      rw [h0] at h0'
      cases h0'
      obtain ⟨v, g1, g2⟩ := dv.get e5
      unfold small at hk
      simp only [Bool.and_eq_true, decide_eq_true_eq] at hk
      have hj := (ixN_seq (show L2.ixN xs.length k = some j from e4)).1
      refine ⟨a, vs, k, j, v, rfl, rfl, h1', by omega, by omega, by rw [dv.len]; exact hj, g1, F1, x1, R1.write e3 h0 h1' (dv.erase j), g2⟩
    · cases e
  · cases e
end
end Ev
set_option Elab.async false
set_option linter.all false
set_option maxRecDepth 100000
/-! Ev8: calls of own defs; what a loop walks. -/
namespace Ev
open PySem PySem.Spec PyProof.Rows L2
/-! ### a def's promise -/
/-- the addresses of the own lists that are handed on -/
def ows : List V → List Ov → List Addr
  | .ref a :: vs, .own _ :: os => a :: ows vs os
  | _ :: vs, _ :: os => ows vs os
  | _, _ => []
inductive ArgO (K : Frag) (F H : Hp) : List V → List Ov → Prop
  | nil : ArgO K F H [] []
  | imm {v : V} {d : PyData} {vs : List V} {os : List Ov} : Dn K F v d → ArgO K F H vs os → ArgO K F H (v :: vs) (.imm d :: os)
  | own {a : Addr} {ws : List V} {xs : List PyData} {vs : List V} {os : List Ov} : F a = none → H a = some (.lst ws) → DnA K F ws xs → ArgO K F H vs os → ArgO K F H (.ref a :: vs) (.own xs :: os)
inductive OutL (K : Frag) (F H : Hp) : List Addr → List (List PyData) → Prop
  | nil : OutL K F H [] []
  | cons {a : Addr} {ws : List V} {xs : List PyData} {as : List Addr} {ls : List (List PyData)} : F a = none → H a = some (.lst ws) → DnA K F ws xs → OutL K F H as ls → OutL K F H (a :: as) (xs :: ls)
structure Ret (K : Frag) (F H F' H' : Hp) (as : List Addr) (o : Ov) (l : List (List PyData)) (v : V) : Prop where
  frm : ∀ b x, H b = some x → b ∉ as → H' b = some x
  le : Same F F'
  new : ∀ b, F b = none → H b ≠ none → F' b = none
  sub : Same F' H'
  out : OutL K F' H' as l
  res : match o with
    | .imm d => Dn K F' v d
    | .own xs => ∃ a ws, v = .ref a ∧ H a = none ∧ F' a = none ∧ H' a = some (.lst ws) ∧ DnA K F' ws xs
def spF (K : Frag) (cs : CS) (f np : Nat) : Sp := fun vs H Q _ => ∃ F os o l, Same F H ∧ ArgO K F H vs os ∧ (ows vs os).Nodup ∧ vs.length = np ∧ cs f os = some (o, l) ∧ ∀ v H' F', Ret K F H F' H' (ows vs os) o l v → Q v H'
inductive RefsAt (σ : L2.St) : List Nat → List Addr → Prop
  | nil : RefsAt σ [] []
  | cons {x : Nat} {a : Addr} {xs : List Nat} {as : List Addr} : σ[x]? = some (some (.ref a)) → RefsAt σ xs as → RefsAt σ (x :: xs) (a :: as)
section
variable {X : Cx} {A : List (Nat × Addr)} {G : Hp} {cs : CS} {pins : List (Addr × Obj)} {s : Shared} {σ : L2.St} {H F : Hp} {ρ ρ' : Env} {o : Ov}
theorem ArV.len {K : Frag} : ∀ {vs : List V} {ars : List Ar}, ArV K F σ vs ars → vs.length = ars.length
  | _, _, .nil => rfl
  | _, _, .d _ q => by simp [q.len]
  | _, _, .r _ q => by simp [q.len]
theorem args_ok {K : Frag} (R : Rel K A G F H σ ρ) : ∀ {vs : List V} {ars : List Ar} {os : List Ov}, ArV K F σ vs ars → arAll ρ ars = some os → ArgO K F H vs os ∧ RefsAt σ (refsA ars) (ows vs os) ∧ ∀ x ∈ refsA ars, ∃ xs, getE ρ x = some (.own xs)
  | _, _, _, .nil, e => by
    cases e
    exact ⟨.nil, .nil, fun x h => by cases h⟩
  | _, _, _, .d (v := v) (d := d) (vs := vs) h q, e => by
    unfold arAll at e
    obtain ⟨o1, e1, e⟩ := Option.bind_eq_some_iff.mp e
    obtain ⟨os, e2, rfl⟩ := Option.map_eq_some_iff.mp e
    cases e1
    obtain ⟨q1, q2, q3⟩ := args_ok R q e2
    refine ⟨.imm h q1, ?_, q3⟩
    have : ows (v :: vs) (.imm d :: os) = ows vs os := by cases v <;> rfl
    rw [this]
    exact q2
  | _, _, _, .r (x := x) h q, e => by
    unfold arAll at e
    obtain ⟨o1, e1, e⟩ := Option.bind_eq_some_iff.mp e
    obtain ⟨os, e2, rfl⟩ := Option.map_eq_some_iff.mp e
    obtain ⟨xs, w, e1⟩ := Option.map_eq_some_iff.mp (show (ownE ρ x).map Ov.own = some o1 from e1)
    cases e1
    have w := ownE_some w
    obtain ⟨q1, q2, q3⟩ := args_ok R q e2
    obtain ⟨a, h0, g, f, ws, h1, d⟩ := R.own x xs w
    rw [h] at h0
    cases h0
    refine ⟨.own f h1 d q1, .cons h q2, fun y hy => ?_⟩
    rcases List.mem_cons.mp hy with rfl | hy
    · exact ⟨xs, w⟩
    · exact q3 y hy
theorem refs_mem : ∀ {xs : List Nat} {as : List Addr}, RefsAt σ xs as → (∀ x ∈ xs, ∃ a ∈ as, σ[x]? = some (some (.ref a))) ∧ ∀ a ∈ as, ∃ x ∈ xs, σ[x]? = some (some (.ref a))
  | _, _, .nil => ⟨(fun _ h => by cases h), (fun _ h => by cases h)⟩
  | _, _, .cons h q => by
    obtain ⟨q1, q2⟩ := refs_mem q
    refine ⟨fun x hx => ?_, fun a ha => ?_⟩
    · rcases List.mem_cons.mp hx with rfl | hx
      · exact ⟨_, List.mem_cons_self, h⟩
      · obtain ⟨a, h1, h2⟩ := q1 x hx
        exact ⟨a, List.mem_cons_of_mem _ h1, h2⟩
    · rcases List.mem_cons.mp ha with rfl | ha
      · exact ⟨_, List.mem_cons_self, h⟩
      · obtain ⟨x, h1, h2⟩ := q2 a ha
        exact ⟨x, List.mem_cons_of_mem _ h1, h2⟩
theorem refs_nodup {K : Frag} (R : Rel K A G F H σ ρ) : ∀ {xs : List Nat} {as : List Addr}, RefsAt σ xs as → xs.Nodup → (∀ x ∈ xs, ∃ l, getE ρ x = some (.own l)) → as.Nodup
  | _, _, .nil, _, _ => List.nodup_nil
  | _, _, .cons (x := x) (a := a) h q, n, w => by
    obtain ⟨n1, n2⟩ := List.nodup_cons.mp n
    refine List.nodup_cons.mpr ⟨fun ha => ?_, refs_nodup R q n2 fun y hy => w y (List.mem_cons_of_mem _ hy)⟩
    obtain ⟨y, hy, e⟩ := (refs_mem q).2 a ha
    obtain ⟨l1, w1⟩ := w x List.mem_cons_self
    obtain ⟨l2, w2⟩ := w y (List.mem_cons_of_mem _ hy)
    have := R.dis x y l1 l2 a w1 w2 h e
    subst this
    exact n1 hy
theorem put_get {K : Frag} {F' H' : Hp} : ∀ {xs : List Nat} {as : List Addr} {ls : List (List PyData)} {ρ ρ2 : Env}, RefsAt σ xs as → OutL K F' H' as ls → putBack xs ls ρ = some ρ2 → xs.Nodup → (∀ x ∈ xs, x < ρ.length) →
    ρ2.length = ρ.length ∧ (∀ i, i ∉ xs → getE ρ2 i = getE ρ i) ∧ ∀ i ∈ xs, ∃ a ws l, σ[i]? = some (some (.ref a)) ∧ getE ρ2 i = some (.own l) ∧ F' a = none ∧ H' a = some (.lst ws) ∧ DnA K F' ws l
  | _, _, _, ρ, ρ2, .nil, .nil, e, _, _ => by
    cases e
    exact ⟨rfl, fun _ _ => rfl, fun _ h => by cases h⟩
  | _, _, _, ρ, ρ2, .cons (x := x) (a := a) h q, .cons (ws := ws) (xs := l) f1 h1 d1 p, e, n, w => by
    obtain ⟨n1, n2⟩ := List.nodup_cons.mp n
    obtain ⟨z1, z2, z3⟩ := put_get q p (show putBack _ _ (setE ρ x (.own l)) = some ρ2 from e) n2 fun y hy => by rw [setE_len]; exact w y (List.mem_cons_of_mem _ hy)
    refine ⟨z1.trans setE_len, fun i hi => ?_, fun i hi => ?_⟩
    · have i1 : x ≠ i := fun z => hi (by rw [z]; exact List.mem_cons_self)
      rw [z2 i (fun z => hi (List.mem_cons_of_mem _ z)), getE_set, if_neg (fun z => i1 z.1)]
    · rcases List.mem_cons.mp hi with rfl | hi
      · refine ⟨a, ws, l, h, ?_, f1, h1, d1⟩
        rw [z2 i n1, getE_set, if_pos ⟨rfl, w i List.mem_cons_self⟩]
      · exact z3 i hi
/-- behind a call -/
theorem Rel.ret {K : Frag} {F' H' : Hp} {xs : List Nat} {as : List Addr} {l : List (List PyData)} {v : V} {ρ2 : Env} (R : Rel K A G F H σ ρ) (ra : RefsAt σ xs as) (n : xs.Nodup) (w : ∀ x ∈ xs, ∃ l, getE ρ x = some (.own l)) (e : putBack xs l ρ = some ρ2) (q : Ret K F H F' H' as o l v) : Post K A G F σ ρ2 o v H' := by
  obtain ⟨z1, z2, z3⟩ := put_get ra q.out e n fun x hx => by obtain ⟨l, w⟩ := w x hx; exact getE_lt w
  have hG : ∀ a ∈ as, G a = none ∧ H a ≠ none := fun a ha => by
    obtain ⟨x, hx, e⟩ := (refs_mem ra).2 a ha
    obtain ⟨l, w⟩ := w x hx
    obtain ⟨b, h0, g, f, ws, h1, _⟩ := R.own x l w
    rw [e] at h0; cases h0
    exact ⟨g, by rw [h1]; simp⟩
  -- an own slot behind is one ahead
  have back : ∀ i l, getE ρ2 i = some (.own l) → ∃ l', getE ρ i = some (.own l') := fun i l h => by
    by_cases hi : i ∈ xs
    · exact w i hi
    · rw [z2 i hi] at h; exact ⟨l, h⟩
  have nas : ∀ i l b, i ∉ xs → getE ρ i = some (.own l) → σ[i]? = some (some (.ref b)) → b ∉ as := fun i l b hi h e ha => by
    obtain ⟨x, hx, e2⟩ := (refs_mem ra).2 b ha
    obtain ⟨l2, w2⟩ := w x hx
    have := R.dis i x l l2 b h w2 e e2
    subst this
    exact hi hx
  have RR : Rel K A G F' H' σ ρ2 := by
    refine ⟨fun b x h => ?_, q.sub, fun i d h => ?_, fun i l' h => ?_, fun i j l1 l2 a h1 h2 e1 e2 => ?_, R.pin, z1.trans R.len⟩
    · exact q.frm b x (R.frm b x h) fun ha => by rw [(hG b ha).1] at h; cases h
    · by_cases hi : i ∈ xs
      · obtain ⟨a, ws, l, _, z, _⟩ := z3 i hi
        rw [h] at z; cases z
      · rw [z2 i hi] at h
        obtain ⟨v, h1, h2⟩ := R.imm i d h
        exact ⟨v, h1, h2.mono q.le⟩
    · by_cases hi : i ∈ xs
      · obtain ⟨a, ws, l, h0, z, f, h1, d⟩ := z3 i hi
        rw [h] at z; cases z
        obtain ⟨b, hb, e⟩ := (refs_mem ra).1 i hi
        rw [h0] at e; cases e
        exact ⟨a, h0, (hG a hb).1, f, ws, h1, d⟩
      · rw [z2 i hi] at h
        obtain ⟨b, h0, g, f, ws, h1, d⟩ := R.own i l' h
        have hb := nas i l' b hi h h0
        exact ⟨b, h0, g, q.new b f (by rw [h1]; simp), ws, q.frm b _ h1 hb, d.mono q.le⟩
    · obtain ⟨l1', w1⟩ := back i l1 h1
      obtain ⟨l2', w2⟩ := back j l2 h2
      exact R.dis i j l1' l2' a w1 w2 e1 e2
  refine ⟨F', ⟨q.le, fun b f g => q.new b f fun z => g ?_⟩, RR, ?_⟩
  · cases gb : G b with
    | none => rfl
    | some x => rw [R.frm b x gb] at z; cases z
  · have r := q.res
    cases o with
    | imm d => exact r
    | own l' =>
      obtain ⟨a, ws, rfl, hn, f, h1, d⟩ := r
      refine ⟨a, rfl, ⟨R.frm.free hn, f, ws, h1, d⟩, fun i ys hi hs => ?_⟩
      obtain ⟨l2, w2⟩ := back i ys hi
      obtain ⟨b, h0, _, _, ws2, h2, _⟩ := R.own i l2 w2
      rw [hs] at h0; cases h0
      rw [hn] at h2; cases h2
theorem evs_len : ∀ {ies : IEs} {ρ ρ' : Env} {ars : List Ar}, evs cs ies ρ = some (ars, ρ') → ars.length = ies.len
  | .nil, _, _, _, h => by cases h; rfl
  | .cons _ es, _, _, _, h => by
    unfold evs at h
    obtain ⟨p, _, h⟩ := Option.bind_eq_some_iff.mp h
    obtain ⟨q, e, h⟩ := Option.map_eq_some_iff.mp h
    cases h
    simp [IEs.len, evs_len e]
  | .ref _ es, _, _, _, h => by
    unfold evs at h
    obtain ⟨p, _, h⟩ := Option.bind_eq_some_iff.mp h
    obtain ⟨q, e, h⟩ := Option.map_eq_some_iff.mp h
    cases h
    simp [IEs.len, evs_len e]
theorem se_call {CX : CXT} {k f' : Nat} {f : Addr} {fd : FuncData} {ps : List Str} {x : Str} {p pos : Pos} {e : Expr} {es : List Expr} {ies : IEs} (Fk : FnOk X.prog X.w X.K X.mg X.base CX k f fd ps (spF X.K cs f' ps.length)) (hr : Room k X.A) (hg : Gl X x) (hm : X.mg x = some (.ref f)) (hk : PySem.W.keepIn X.K (.ref f) = true)
    (hb : Binds X.K fd ps []) (hx : Passes CX X E0) (ha : SA X A G cs (e :: es) ies) (hl : ies.len = ps.length := by rfl) (hdb : (x == ("__debug__" : Str)) = false := by decide) (he : starEach (e :: es) X.env = (false, eval e X.env) :: starEach es X.env := by rfl)
    (hpl : (backTo pos (starEach es X.env)).any (·.1) = false := by rfl) : SE X A G cs (.Call (.Name x p) (e :: es) [] pos) (.call f' ies) := by
  refine ⟨fun pins s σ H F ρ o ρ' I R h => ?_⟩
  unfold ev at h
  obtain ⟨⟨as, ρ1⟩, e1, h⟩ := Option.bind_eq_some_iff.mp h
  obtain ⟨os, e2, h⟩ := Option.bind_eq_some_iff.mp h
  split at h
  · rename_i nd
    obtain ⟨⟨o', l⟩, e3, h⟩ := Option.bind_eq_some_iff.mp h
    obtain ⟨ρ2, e4, h⟩ := Option.map_eq_some_iff.mp h
    cases h
    refine (pe_call Fk hr hg hm hk hb .nil hx ha.pa hdb he hpl).run pins s σ H _ I ⟨F, ρ, as, ρ1, R, e1, fun vs H1 _ ⟨F1, x1, R1, av⟩ => ?_⟩
    obtain ⟨q1, q2, q3⟩ := args_ok R1 av e2
    rw [List.append_nil]
    have hlen : vs.length = as.length := by
      exact ArV.len av
    refine ⟨F1, os, o', l, R1.sub, q1, refs_nodup R1 q2 nd q3, by rw [hlen, evs_len e1, hl], e3, fun v H' F' q => ?_⟩
    exact (R1.ret q2 nd q3 e4 q).ext x1
  · cases h
/-! ### calls by names alone -/
structure SKw (X : Cx) (A : List (Nat × Addr)) (G : Hp) (cs : CS) (kws : List Keyword) (ies : IEs) : Prop where
  run : ∀ (pos : Pos) (pins : List (Addr × Obj)) (s : Shared) (σ : L2.St) (H F : Hp) (ρ : Env) (ars : List Ar) (ρ' : Env), Inv X pins σ H s → Rel X.K A G F H σ ρ → evs cs ies ρ = some (ars, ρ') →
    wpAny (model X.prog X.w) X.A (evalAll ((backToKw pos (keywordEach kws X.env)).map (·.2))) (AP X pins σ (PostA X.K A G F σ ρ' ars)) X.xe s
theorem skw_nil : SKw X A G cs [] .nil := ⟨fun pos pins s σ H F ρ ars ρ' I R e => by
  cases e
  exact wpAny_evalAll_nil ⟨[], H, I, .nil, F, .refl, R, .nil⟩⟩
theorem skw_cons {nm : Option Str} {kpos : Pos} {e : Expr} {kws : List Keyword} {ie : IE} {ies : IEs} (ha : SE X A G cs e ie) (hr : SKw X A G cs kws ies) : SKw X A G cs (⟨nm, e, kpos⟩ :: kws) (.cons ie ies) := by
  refine ⟨fun pos pins s σ H F ρ ars ρ' I R e => ?_⟩
  unfold evs at e
  obtain ⟨⟨o1, ρ1⟩, e1, e⟩ := Option.bind_eq_some_iff.mp e
  obtain ⟨⟨as, ρ2⟩, e2, e⟩ := Option.map_eq_some_iff.mp e
  cases e
  show wpAny _ _ (evalAll ((do let v ← eval _ X.env; standAt pos; pure v) :: (backToKw pos (keywordEach kws X.env)).map (·.2))) _ _ s
  refine wpAny_evalAll_cons (wpAny_bind (ha.on I R e1 fun u1 s1 v1 H1 F1 I1 r1 x1 R1 d1 => wpAny_bind (wpAny_standAt (wpAny_pure ?_))))
  exact thn (hr.run pos pins s1 σ H1 F1 ρ1 as _ I1 R1 e2) fun us s2 ⟨vs, H2, I2, r2, F2, x2, R2, a2⟩ => ⟨v1 :: vs, H2, I2, .cons r1 r2, F2, x1.trans x2, R2, .d (d1.mono x2.le) a2⟩
/-- the values in the parameters' order -/
def permV (pm : List Nat) (zs : List V) : List V := pm.map fun i => (zs[i]?).getD .non
def permU (pm : List Nat) (ws : List Value) : List Value := pm.map fun i => (ws[i]?).getD .none
theorem perm_rel {pm : List Nat} {zs : List V} {ws : List Value} (r : Vals zs ws) : Vals (permV pm zs) (permU pm ws) := by
  induction pm with
  | nil => exact .nil
  | cons i pm ih =>
    refine .cons ?_ ih
    show RelV ((zs[i]?).getD .non) ((ws[i]?).getD .none)
    cases h : zs[i]? with
    | some v =>
      obtain ⟨u, hu, rv⟩ := r.get h
      rw [hu]; exact rv
    | none =>
      have : ws[i]? = none := by
        rw [List.getElem?_eq_none_iff] at h ⊢
        rw [← r.length]; exact h
      rw [this]; rfl
theorem perm_dn {K : Frag} {zs : List V} {ds : List PyData} (h : DnA K F zs ds) : ∀ {pm : List Nat} {es : List PyData}, permD pm ds = some es → DnA K F (permV pm zs) es
  | [], _, e => by cases e; exact .nil
  | i :: pm, _, e => by
    unfold permD at e
    obtain ⟨d, e1, e⟩ := Option.bind_eq_some_iff.mp e
    obtain ⟨es', e2, rfl⟩ := Option.map_eq_some_iff.mp e
    obtain ⟨v, hv, dv⟩ := h.get e1
    refine .cons ?_ (perm_dn h e2)
    show Dn K F ((zs[i]?).getD .non) d
    rw [hv]; exact dv
theorem argO_imm {K : Frag} : ∀ {zs : List V} {es : List PyData}, DnA K F zs es → ArgO K F H zs (es.map Ov.imm) ∧ ows zs (es.map Ov.imm) = []
  | _, _, .nil => ⟨.nil, rfl⟩
  | _, _, .cons h q => by
    obtain ⟨a, b⟩ := argO_imm q
    refine ⟨.imm h a, ?_⟩
    show ows (_ :: _) (Ov.imm _ :: _) = []
    rw [← b]
    rename_i v vs d ds
    cases v <;> rfl
theorem se_callk {CX : CXT} {k f' : Nat} {f : Addr} {fd : FuncData} {ps ks : List Str} {x : Str} {p pos : Pos} {kws : List Keyword} {ies : IEs} {pm : List Nat} (Fk : FnOk X.prog X.w X.K X.mg X.base CX k f fd ps (spF X.K cs f' ps.length)) (hr : Room k X.A) (hg : Gl X x) (hm : X.mg x = some (.ref f)) (hk : PySem.W.keepIn X.K (.ref f) = true)
    (hb : KBn X.K fd ps 0 ks (fun _ ws => permU pm ws) (fun _ zs => permV pm zs)) (hx : Passes CX X E0) (ha : SKw X A G cs kws ies) (hl : ies.len = ks.length := by rfl) (hp : pm.length = ps.length := by rfl) (hall : (backToKw pos (keywordEach kws X.env)).all (·.1.isSome) = true := by rfl) (hks : (backToKw pos (keywordEach kws X.env)).filterMap (·.1) = ks := by rfl)
    (hdb : (x == ("__debug__" : Str)) = false := by decide) (hpl : ((backTo pos (starEach [] X.env)).any (·.1) || (backToKw pos (keywordEach kws X.env)).any (·.1.isNone)) = false := by rfl) : SE X A G cs (.Call (.Name x p) [] kws pos) (.callk f' pm ies) := by
  refine ⟨fun pins s σ H F ρ o ρ' I R h => ?_⟩
  unfold ev at h
  obtain ⟨⟨as, ρ1⟩, e1, h⟩ := Option.bind_eq_some_iff.mp h
  obtain ⟨ds, e2, h⟩ := Option.bind_eq_some_iff.mp h
  obtain ⟨es, e3, h⟩ := Option.bind_eq_some_iff.mp h
  obtain ⟨⟨o', l⟩, e4, h⟩ := Option.bind_eq_some_iff.mp h
  dsimp only at h
  split at h
  · rename_i hl0
    cases h
    subst hl0
    refine wpAny_Call_Name_kw (ld_glob I hg hm ?_ hdb)
    refine PySem.W.callWith_KW0 (h₀ := X.base) I.ok.mod.kin hk hall ?_ hpl
    refine thn (ha.run pos pins s σ H F ρ as _ I R e1) fun ws s2 ⟨zs, H2, I2, rz, F2, x2, R2, av⟩ => ⟨I2.kIn, ?_⟩
    rw [hks]
    have dz := perm_dn (av.asD e2) e3
    obtain ⟨q1, q2⟩ := argO_imm (H := H2) dz
    have hzl : zs.length = ks.length := by rw [ArV.len av, evs_len e1, hl]
    refine run_fnN (us := []) (vs := []) Fk hr hb hx I2 .nil rz rfl hzl ?_
    refine ⟨F2, es.map Ov.imm, _, [], R2.sub, q1, by rw [q2]; exact List.nodup_nil, by rw [dz.len, ← dz.len]; show (permV pm zs).length = _; unfold permV; rw [List.length_map, hp], e4, fun v H' F' q => ?_⟩
    rw [q2] at q
    exact (R2.ret (xs := []) (as := []) .nil List.nodup_nil (fun x hx => by cases hx) rfl q).ext x2
  · cases h
theorem kb0 {K : Frag} {x qual : Str} {params : Arguments} {body : List Stmt} {scope : Scope} {kws : List (Str × V)} {f : Addr} {fd : FuncData} {ps ks : List Str} {pm : List Nat} (F : FunD K x qual params body scope [] kws f fd)
    (h : ∀ (kV doc pmv : Value) (an : Option Addr) (cdv ct : Value) (ws : List Value), ws.length = ks.length → bindArgs (PySem.W.fnOf x qual params body scope .none kV doc pmv an cdv ct) ⟨[], ks.zip ws⟩ = pure (ps.zip (permU pm ws))) : KBn K fd ps 0 ks (fun _ ws => permU pm ws) (fun _ zs => permV pm zs) := by
  obtain ⟨oc, od, dV, kV, doc, pmv, an, cdv, ct, osl, rfl, lk, hcd, hD, hK⟩ := F.ex
  rcases hD with ⟨_, rfl⟩ | ⟨e, _⟩
  · refine ⟨fun s us ws _ hu hw => ?_, fun _ r2 => perm_rel r2⟩
    obtain rfl : us = [] := List.length_eq_zero_iff.mp hu
    exact .of_eq (h kV doc pmv an cdv ct ws hw)
  · exact absurd rfl e
end
end Ev
set_option Elab.async false
set_option linter.all false
set_option maxRecDepth 100000
/-! EvT: enumerate over a tuple. -/
namespace Ev
open PySem
open Sem (wp)
open AutoSeq1 (wpAny_loadPart')
set_option maxHeartbeats 1000000 in
theorem meets_enumerate_newT (l : Addr) (items : Array Value) (n : Nat) (dct : Option Addr) (sl : Array (Option Value)) :
    Meets (Builtin.«enumerate.__new__» ⟨[.type "enumerate", .ref l], []⟩) (fun _ R s => s.heap.get? l = some { cls := .type "tuple", dict := dct, data := .seq items n, slots := sl } ∧
      R (.ok (.ret (.ref (s.heap.push { cls := .type "tuple_iterator", data := .fields #[.ref l, .int 0 0] }).objs.size)))
        { s with heap := (s.heap.push { cls := .type "tuple_iterator", data := .fields #[.ref l, .int 0 0] }).push { cls := .type "enumerate", data := .fields #[.none, .bool false, .ref s.heap.objs.size, rawInt 0, .none, .none] } }) :=
  .of_wp fun prog w A R s h => by
    obtain ⟨hp, g, d, tk, os⟩ := s; obtain ⟨hl, h⟩ := h
    have hsub := sub_enumerate
    have hL : Heap.IsTuple (Shared.heap ⟨hp, g, d, tk, os⟩) l items := ⟨_, hl, rfl, n, rfl⟩
    wp_walk using wpAny_loadPart' hl
    refine wpAny_stack_any fun st => wpAny_pure ?_
    split
    · rename_i c _ _ _ _ _
      cases (c == Value.type "enumerate")
      · wp_walk using wpAny_loadPart' hl, wpAny_pyIter_tuple hL
        exact ⟨_, rfl, h⟩
      · wp_walk using wpAny_loadPart' hl, wpAny_pyIter_tuple hL
        exact ⟨_, rfl, h⟩
    · wp_walk using wpAny_loadPart' hl, wpAny_pyIter_tuple hL
      exact ⟨_, rfl, h⟩
section
variable {prog : Program} {w : World} {A : Around} {E : Value → Shared → Prop} {s : Shared}
theorem call_enumerate_tuple {l : Addr} {items : Array Value} {Q : Value → Shared → Prop} (hL : s.heap.IsTuple l items)
    (h : ∀ h', IsEnum h' (s.heap.objs.size + 1) s.heap.objs.size 0 .none → h'.IsTupleIter s.heap.objs.size l 0 → h'.objs.size = s.heap.objs.size + 2 →
      (∀ b o, s.heap.get? b = some o → h'.get? b = some o) → Q (.ref (s.heap.objs.size + 1)) { s with heap := h' }) :
    wpAny (model prog w) A (call (.type "enumerate") [.ref l]) Q E s := by
  obtain ⟨⟨c, dct, dt, sl⟩, hl, hc, n, hd⟩ := hL
  replace hc : c = .type "tuple" := hc
  replace hd : dt = .seq items n := hd
  subst hc hd
  refine callType_new F.called_enumerate (by decide) (F.typeCall_enumerate_1 _) (F.newCall_enumerate_1 _) (fun obj => F.args_object_init_2 obj _) F.entry_enumerate_new
    (meets_enumerate_newT l items n dct sl) ⟨hl, ?_⟩
  have hz : (s.heap.push { cls := .type "tuple_iterator", data := .fields #[.ref l, .int 0 0] }).objs.size = s.heap.objs.size + 1 := Heap.size_push ..
  show _ ∧ _
  rw [hz]
  have he : IsEnum ((s.heap.push { cls := .type "tuple_iterator", data := .fields #[.ref l, .int 0 0] }).push
      { cls := .type "enumerate", data := .fields #[.none, .bool false, .ref s.heap.objs.size, rawInt 0, .none, .none] }) (s.heap.objs.size + 1) s.heap.objs.size 0 .none := by
    have := Heap.get?_push_size (s.heap.push { cls := .type "tuple_iterator", data := .fields #[.ref l, .int 0 0] })
      (o := { cls := .type "enumerate", data := .fields #[.none, .bool false, .ref s.heap.objs.size, rawInt 0, .none, .none] }) rfl
    rw [hz] at this; exact this
  refine ⟨⟨_, he, rfl⟩, h _ he ⟨_, Heap.get?_push_of_some _ (Heap.get?_push_size _ rfl), rfl, rfl⟩ (by rw [Heap.size_push, hz]) fun b o x => Heap.get?_push_of_some _ (Heap.get?_push_of_some _ x)⟩
end
theorem draws_tuple {prog : Program} {w : World} {A : Around} (hh : A.handled = none) (it l : Addr) (hne : l ≠ it) (items : Array Value) :
    Draws prog w A it [it, l] items.size (fun i v => items[i]? = some v) (fun i h => h.IsTupleIter it l i ∧ h.IsTuple l items) where
  live := fun _ _ st => let ⟨o, ho, _⟩ := st.1; ⟨o, ho⟩
  frame := fun _ _ _ st hk => ⟨st.1.at fun o e => hk it (by simp) o e, st.2.at fun o e => hk l (by simp) o e⟩
  item := fun i s Q E hi st hQ => by
    refine RZ.nextOf_tuple_item st.1 st.2 (x := items[i]) (by simp [hi]) fun h' hit' hs' => ?_
    exact hQ _ h' s.toks (by simp [hi]) ⟨hit', st.2.extBut hs'.extBut hne⟩ hs'
  done := fun s Q E st hE => RZ.nextOf_tuple_end hh st.1 st.2 (by simp) hE
theorem endT {prog : Program} {w : World} {A : Around} {E : Value → Shared → Prop} {s : Shared} {e it l : Addr} {i : Nat} {k : Int} {old : Value} {items : Array Value} {Q : Option Value → Shared → Prop} (hh : A.handled = none) (he : IsEnum s.heap e it k old) (hit : s.heap.IsTupleIter it l i) (hl : s.heap.IsTuple l items) (hx : items[i]? = none)
    (hQ : ∀ h', Heap.ExtBut it s.heap h' → Q none { s with heap := h' }) : wpAny (model prog w) A (pyNext (.ref e)) Q E s := by
  have hT : s.TypeIs (.ref e) "enumerate" := ⟨_, he, rfl⟩
  unfold pyNext
  refine wpAny_bind (wpAny_attempt (wpAny_callSpecial?_slot (name := Str.ofString "__next__") hT F.slot_enumerate_next
    (wpAny_call_entry F.slot_enumerate_next hT F.entry_enumerate_next ?_ (F.args_enumerate_next_1 _))))
  show wpAny _ _ (field (.ref e) 2 >>= _) _ _ _
  refine wpAny_bind (wpAny_field he rfl (x := .ref it) rfl ?_)
  refine wpAny_bind (RZ.nextOf_tuple_end hh hit hl hx fun h' x he' hx' => ?_)
  obtain ⟨o, ho, hc⟩ := hx'
  refine wpAny_bind (wpAny_isInstance (T := "StopIteration") (b := true) ⟨o, ho, hc⟩ isSubtype_stop ?_)
  exact wpAny_pure (hQ _ he')
open PySem.Spec PyProof.Rows L2
def IteT (K : PySem.W.Frag) (a : Addr) : It :=
  ⟨fun i H => ∃ (xs : List V) (x : V), SqT K H a xs ∧ xs[i]? = some x, fun i H v H' => ∃ T x, v = .ref T ∧ H T = none ∧ H' = upd H T (.tup [.int (i : Nat), x]) ∧ ∀ xs, SqT K H a xs → xs[i]? = some x, fun i H => ∃ xs : List V, SqT K H a xs ∧ xs.length ≤ i⟩
theorem turn_enumT {P : Program} {w : World} {K : PySem.W.Frag} {elts : List Expr} {kk : Nat} {tpos : Pos} (a e it : Addr) :
    Turn P w K (.Tuple elts kk tpos) (IteT K a) [e, it] e (fun i h => (∃ old, IsEnum h e it ((i : Nat) : Int) old) ∧ h.IsTupleIter it a i ∧ e ≠ it) where
  mem := by simp
  obj := fun i h st b hb => by
    obtain ⟨⟨old, he⟩, ⟨o, ho, hc, hd⟩, _⟩ := st
    have e' : b = e ∨ b = it := by simpa using hb
    rcases e' with z | z
    · rw [z]; exact ⟨_, he, fun v q => nomatch q⟩
    · rw [z]; exact ⟨o, ho, fun v q => by rw [hd] at q; cases q⟩
  keep := fun i h h' st k => let ⟨⟨old, he⟩, hi, hne⟩ := st; ⟨⟨old, k e (by simp) _ he⟩, hi.at fun o q => k it (by simp) o q, hne⟩
  item := by
    intro X hP hw hK hc i pins s σ H E I hf st hg
    subst hP hw hK
    obtain ⟨⟨old, he⟩, hit, hne⟩ := st
    obtain ⟨xs, x, hq, hx⟩ := hg
    obtain ⟨its, rv, p, hz⟩ := I.tuple hq
    obtain ⟨u, hu, ru⟩ := rv.get hx
    have p' : s.heap.IsTuple a its.toArray := p
    have hel : e < s.heap.objs.size := Heap.lt_size he
    have hil : it < s.heap.objs.size := by obtain ⟨_, q, _⟩ := hit; exact Heap.lt_size q
    have nai : a ≠ it := fun z => by
      obtain ⟨o, q, c, _⟩ := p'
      obtain ⟨o2, q2, c2, _⟩ := hit
      rw [z, q2] at q; cases q
      rw [c2] at c; simp at c
    have nae : e ≠ a := fun z => by
      obtain ⟨o, q, c, _⟩ := p'
      rw [← z, he] at q; cases q
      simp at c
    have hl : i < its.toArray.size := by simpa using (List.getElem?_eq_some_iff.mp hu).1
    refine wpAny_pyNext_enum_itemD (draws_tuple (A := X.A.in1) (show X.A.in1.handled = none from I.ok.hd hc) it a nai its.toArray) he ⟨hit, p'⟩ hl hne (by simp; exact ⟨hne, nae⟩) fun z h' tk hz' ho hst hT hsz hk => ?_
    obtain ⟨hit', _⟩ := hst
    have ez : z = u := by
      have : its.toArray[i]? = some u := by simpa using hu
      rw [this] at hz'
      exact (Option.some.inj hz').symm
    subst ez
    refine ⟨_, rfl, wpAny_letOwnedTupleGo_enum (s := { s with heap := h', toks := tk + 1 }) ho fun h'' he' sb => ?_⟩
    have hT2 : h''.get? s.heap.objs.size = some { cls := .type "tuple", data := .seq #[.int i tk, z] } := (sb.2 _ (Nat.ne_of_gt hel)).trans hT
    have new : ObjOk X.prog X.w (upd H s.heap.objs.size (.tup [.int (i : Nat), x])) h'' s.heap.objs.size (.tup [.int (i : Nat), x]) :=
      ⟨by show 2 ≤ sizeLine; decide, [.int i tk, z], .cons ⟨_, rfl⟩ (.cons ru .nil), ⟨_, hT2, rfl, _, rfl⟩⟩
    have I1 : Inv X pins σ (upd H s.heap.objs.size (.tup [.int (i : Nat), x])) { s with heap := h'', toks := tk + 1 } :=
      I.turnedNew (ch := [e, it]) (fun b ob hb q => (sb.2 b (fun z => hb (by simp [z]))).trans (hk b ob (fun z => hb (by simp [z])) (fun z => hb (by simp [z])) q)) hf (Nat.le_refl _) new
    refine ⟨.ref s.heap.objs.size, _, I1, rfl, ⟨_, x, rfl, I.hok.fresh (Nat.le_refl _), rfl, fun ys hy => by rw [I.tuple_inj hy hq]; exact hx⟩, ⟨⟨z, ?_⟩, hit'.at fun o q => (sb.2 it (Ne.symm hne)).trans q, hne⟩, fun b hb => ?_⟩
    · have e1 : ((i + 1 : Nat) : Int) = (i : Int) + 1 := by omega
      rw [e1]; exact he'
    · have hb' : b < s.heap.objs.size := by
        have e' : b = e ∨ b = it := by simpa using hb
        rcases e' with z | z
        · rw [z]; exact hel
        · rw [z]; exact hil
      rw [upd_ne (Nat.ne_of_lt hb')]
      exact (hf b hb).1
  done := by
    intro X hP hw hK hc i pins s σ H E I hf st hg
    subst hP hw hK
    obtain ⟨⟨old, he⟩, hit, hne⟩ := st
    obtain ⟨xs, hq, hx⟩ := hg
    obtain ⟨its, rv, p, hz⟩ := I.tuple hq
    have p' : s.heap.IsTuple a its.toArray := p
    obtain ⟨f0, f1, f2, f3, f4, f5⟩ := hf it (by simp)
    have hl := rv.length
    refine endT (I.ok.hd hc) he hit p' (by simp; omega) fun h' eb => ⟨rfl, I.turned (t' := s.toks) (fun b o hb q => eb b o hb q) f0 f1 f3 f4 f5⟩
  self := fun A i s Q E st h => let ⟨⟨_, he⟩, _⟩ := st; wpAny_pyIter_enum he h
def iEnum2 (K : PySem.W.Frag) (ta : TA) : TI := fun σ H R => ta σ H fun vs H1 => ∃ a xs, vs = [.ref a] ∧ ((SqL K H1 a xs ∧ R (Ite K a) H1) ∨ (SqT K H1 a xs ∧ R (IteT K a) H1))
theorem pi_enum2 {X : Cx} {e : Expr} {ta : TA} {p pos tpos : Pos} {elts : List Expr} {kk : Nat} (hg : Gl X "enumerate") (hm : X.mg "enumerate" = none) (ha : PA X [e] ta) (hs : starEach [e] X.env = [(false, eval e X.env)] := by rfl) :
    PI X (.Tuple elts kk tpos) (.Call (.Name "enumerate" p) [e] [] pos) (iEnum2 X.K ta) := by
  refine ⟨fun pins s σ H R I h => ?_⟩
  refine Call_ (ld_blt I hg hm boot_enumerate (PyProof.Rows.callWith_type1 (thn (ha.run pos pins s σ H _ I h) fun us s1 ⟨vs, H1, I1, r1, q1⟩ => ?_) hs rfl))
  obtain ⟨a, xs, ex, q1⟩ := q1
  subst ex
  cases r1 with
  | cons r rr =>
    cases rr
    cases r
    rcases q1 with ⟨hq, q⟩ | ⟨hq, q⟩
    · obtain ⟨its, rv, p', hz⟩ := I1.list hq
      refine call_enumerate_list p'.isList fun h' he hit hsz hk => wpAny_pyIter_enum he ?_
      have I2 : Inv X pins σ H1 { s1 with heap := h' } := I1.kept (t' := s1.toks) hk
      refine ⟨s1.heap.objs.size + 1, [s1.heap.objs.size + 1, s1.heap.objs.size], _, _, H1, rfl, I2, turn_enum a (s1.heap.objs.size + 1) s1.heap.objs.size, ⟨⟨.none, he⟩, hit, Nat.succ_ne_self _⟩, fun b hb => ?_, q⟩
      have e' : b = s1.heap.objs.size + 1 ∨ b = s1.heap.objs.size := by simpa using hb
      have hle : s1.heap.objs.size ≤ b := by
        rcases e' with z | z
        · rw [z]; exact Nat.le_add_right _ _
        · rw [z]; exact Nat.le_refl _
      exact I1.fpOk hle (I1.hok.fresh hle)
    · obtain ⟨its, rv, p', hz⟩ := I1.tuple hq
      refine call_enumerate_tuple (show s1.heap.IsTuple a its.toArray from p') fun h' he hit hsz hk => wpAny_pyIter_enum he ?_
      have I2 : Inv X pins σ H1 { s1 with heap := h' } := I1.kept (t' := s1.toks) hk
      refine ⟨s1.heap.objs.size + 1, [s1.heap.objs.size + 1, s1.heap.objs.size], _, _, H1, rfl, I2, turn_enumT a (s1.heap.objs.size + 1) s1.heap.objs.size, ⟨⟨.none, he⟩, hit, Nat.succ_ne_self _⟩, fun b hb => ?_, q⟩
      have e' : b = s1.heap.objs.size + 1 ∨ b = s1.heap.objs.size := by simpa using hb
      have hle : s1.heap.objs.size ≤ b := by
        rcases e' with z | z
        · rw [z]; exact Nat.le_add_right _ _
        · rw [z]; exact Nat.le_refl _
      exact I1.fpOk hle (I1.hok.fresh hle)
end Ev
set_option Elab.async false
set_option linter.all false
set_option maxRecDepth 100000
/-! Ev9: what a loop walks; targets; comprehensions. -/
namespace Ev
open PySem PySem.Spec PyProof.Rows L2 RT RZ
/-- what a turn yields: a value of the data, or a new tuple of such -/
def Yl (K : Frag) (F H : Hp) (x : V) (H' : Hp) (d : PyData) : Prop := (H' = H ∧ Dn K F x d) ∨ ∃ p vs es, x = .ref p ∧ H p = none ∧ H' = upd H p (.tup vs) ∧ d = .tuple es ∧ DnA K F vs es
/-- all but tables of code objects stay -/
def SameN (H H' : Hp) : Prop := ∀ b o, H b = some o → (∀ ps, o ≠ .tbl ps) → H' b = some o
theorem SameN.of {H H' : Hp} (s : Same H H') : SameN H H' := fun b o e _ => s b o e
theorem SameN.lst {H H' : Hp} (s : SameN H H') {a : Addr} {vs : List V} (h : H a = some (.lst vs)) : H' a = some (.lst vs) := s _ _ h (fun _ z => by cases z)
theorem SameN.sqT {K : Frag} {H H' : Hp} (s : SameN H H') {a : Addr} {xs : List V} (h : SqT K H a xs) : SqT K H' a xs := by
  rcases h with (h | ⟨o, h⟩) | h
  · exact .inl (.inl (s _ _ h (fun _ z => by cases z)))
  · exact .inl (.inr ⟨o, s _ _ h (fun _ z => by cases z)⟩)
  · exact .inr h
/-- the walk J goes through ds, as long as the data of F stand -/
structure Feed (K : Frag) (J : It) (F : Hp) (ds : List PyData) : Prop where
  go : ∀ i H, SameN F H → i < ds.length → J.go i H
  stop : ∀ i H, SameN F H → ds.length ≤ i → J.stop i H
  yld : ∀ i H x H', SameN F H → J.yld i H x H' → ∀ d, ds[i]? = some d → Yl K F H x H' d
section
variable {K : Frag} {F : Hp}
theorem getV {vs : List V} {ds : List PyData} {i : Nat} (h : DnA K F vs ds) (hi : i < ds.length) : ∃ v, vs[i]? = some v := by
  have := h.len
  exact ⟨vs[i]'(by omega), List.getElem?_eq_getElem _⟩
theorem feed_list {a : Addr} {vs : List V} {ds : List PyData} (h : F a = some (.lst vs)) (d : DnA K F vs ds) : Feed K (Itl K a) F ds where
  go := fun i H s hi => let ⟨v, e⟩ := getV d hi; ⟨vs, v, SqL.of (s.lst h), e⟩
  stop := fun i H s hi => ⟨vs, SqL.of (s.lst h), by rw [d.len]; exact hi⟩
  yld := fun i H x H' s y e he => by
    obtain ⟨rfl, y⟩ := y
    obtain ⟨v, h1, h2⟩ := d.get he
    have h3 := y vs (SqL.of (s.lst h))
    rw [h1] at h3; cases h3
    exact .inl ⟨rfl, h2⟩
theorem feed_tup {a : Addr} {vs : List V} {ds : List PyData} (h : SqT K F a vs) (d : DnA K F vs ds) : Feed K (Itt K a) F ds where
  go := fun i H s hi => let ⟨v, e⟩ := getV d hi; ⟨vs, v, s.sqT h, e⟩
  stop := fun i H s hi => ⟨vs, s.sqT h, by rw [d.len]; exact hi⟩
  yld := fun i H x H' s y e he => by
    obtain ⟨rfl, y⟩ := y
    obtain ⟨v, h1, h2⟩ := d.get he
    have h3 := y vs (s.sqT h)
    rw [h1] at h3; cases h3
    exact .inl ⟨rfl, h2⟩
theorem feed_rng {lo : Int} {n : Nat} : Feed K (Itr lo n) F (rngD lo n) where
  go := fun i H s hi => by have : i < n := by simpa [rngD] using hi
                           exact this
  stop := fun i H s hi => by have : n ≤ i := by simpa [rngD] using hi
                             exact this
  yld := fun i H x H' s y e he => by
    obtain ⟨rfl, rfl⟩ := y
    unfold rngD at he
    rw [List.getElem?_map] at he
    obtain ⟨k, e1, rfl⟩ := Option.map_eq_some_iff.mp he
    have : k = i := by
      obtain ⟨h1, h2⟩ := List.getElem?_eq_some_iff.mp e1
      rw [List.getElem_range] at h2
      exact h2.symm
    subst this
    exact .inl ⟨rfl, .int _⟩
theorem enum_get : ∀ {ds : List PyData} {n i : Nat} {e : PyData}, (enumL n ds)[i]? = some e → ∃ d, ds[i]? = some d ∧ e = .tuple [.int ((n + i : Nat) : Int), d]
  | [], _, _, _, h => by simp [enumL] at h
  | d :: ds, n, 0, e, h => by
    unfold enumL at h
    simp at h
    exact ⟨d, rfl, h.symm⟩
  | d :: ds, n, i + 1, e, h => by
    unfold enumL at h
    obtain ⟨d', h1, h2⟩ := enum_get (ds := ds) (n := n + 1) (i := i) (by simpa using h)
    refine ⟨d', by simpa using h1, ?_⟩
    rw [h2]
    have : n + 1 + i = n + (i + 1) := by omega
    rw [this]
theorem enum_len : ∀ (ds : List PyData) (n : Nat), (enumL n ds).length = ds.length
  | [], _ => rfl
  | d :: ds, n => by unfold enumL; simp [enum_len ds]
theorem feed_enum {a : Addr} {vs : List V} {ds : List PyData} (h : F a = some (.lst vs)) (d : DnA K F vs ds) : Feed K (Ite K a) F (enumL 0 ds) where
  go := fun i H s hi => let ⟨v, e⟩ := getV d (by rw [enum_len] at hi; exact hi); ⟨vs, v, SqL.of (s.lst h), e⟩
  stop := fun i H s hi => ⟨vs, SqL.of (s.lst h), by rw [d.len]; rw [enum_len] at hi; exact hi⟩
  yld := fun i H x H' s y e he => by
    obtain ⟨T, z, rfl, hT, rfl, y⟩ := y
    obtain ⟨d', e1, rfl⟩ := enum_get he
    obtain ⟨v, h1, h2⟩ := d.get e1
    have h3 := y vs (SqL.of (s.lst h))
    rw [h1] at h3; cases h3
    refine .inr ⟨T, _, _, rfl, hT, rfl, rfl, .cons ?_ (.cons h2 .nil)⟩
    rw [Nat.zero_add]
    exact .int _
theorem feed_enumT {a : Addr} {vs : List V} {ds : List PyData} (h : SqT K F a vs) (d : DnA K F vs ds) : Feed K (IteT K a) F (enumL 0 ds) where
  go := fun i H s hi => let ⟨v, e⟩ := getV d (by rw [enum_len] at hi; exact hi); ⟨vs, v, s.sqT h, e⟩
  stop := fun i H s hi => ⟨vs, s.sqT h, by rw [d.len]; rw [enum_len] at hi; exact hi⟩
  yld := fun i H x H' s y e he => by
    obtain ⟨T, z, rfl, hT, rfl, y⟩ := y
    obtain ⟨d', e1, rfl⟩ := enum_get he
    obtain ⟨v, h1, h2⟩ := d.get e1
    have h3 := y vs (s.sqT h)
    rw [h1] at h3; cases h3
    refine .inr ⟨T, _, _, rfl, hT, rfl, rfl, .cons ?_ (.cons h2 .nil)⟩
    rw [Nat.zero_add]
    exact .int _
theorem zip_get : ∀ {xs ys : List PyData} {i : Nat} {e : PyData}, (zipL xs ys)[i]? = some e → ∃ x y, xs[i]? = some x ∧ ys[i]? = some y ∧ e = .tuple [x, y]
  | [], _, _, _, h => by simp [zipL] at h
  | _ :: _, [], _, _, h => by simp [zipL] at h
  | x :: xs, y :: ys, 0, e, h => by
    unfold zipL at h
    simp at h
    exact ⟨x, y, rfl, rfl, h.symm⟩
  | x :: xs, y :: ys, i + 1, e, h => by
    unfold zipL at h
    obtain ⟨x', y', h1, h2, h3⟩ := zip_get (xs := xs) (ys := ys) (i := i) (by simpa using h)
    exact ⟨x', y', by simpa using h1, by simpa using h2, h3⟩
theorem zip_len : ∀ (xs ys : List PyData), (zipL xs ys).length = min xs.length ys.length
  | [], _ => by simp [zipL]
  | _ :: _, [] => by simp [zipL]
  | x :: xs, y :: ys => by unfold zipL; simp [zip_len xs ys]
theorem feed_zip {a b : Addr} {vs ws : List V} {xs ys : List PyData} (h : F a = some (.lst vs)) (d : DnA K F vs xs) (h' : F b = some (.lst ws)) (d' : DnA K F ws ys) : Feed K (Itz K a b) F (zipL xs ys) where
  go := fun i H s hi => by
    rw [zip_len] at hi
    obtain ⟨v, e⟩ := getV d (show i < xs.length by omega)
    obtain ⟨w, e'⟩ := getV d' (show i < ys.length by omega)
    exact ⟨vs, ws, v, w, SqL.of (s.lst h), SqL.of (s.lst h'), e, e'⟩
  stop := fun i H s hi => by
    rw [zip_len] at hi
    have := d.len
    have := d'.len
    exact ⟨vs, ws, SqL.of (s.lst h), SqL.of (s.lst h'), by omega⟩
  yld := fun i H x H' s y e he => by
    obtain ⟨T, z, w, rfl, hT, rfl, y1, y2⟩ := y
    obtain ⟨x', y', e1, e2, rfl⟩ := zip_get he
    obtain ⟨v, h1, h2⟩ := d.get e1
    obtain ⟨v', h1', h2'⟩ := d'.get e2
    have h3 := y1 vs (SqL.of (s.lst h))
    have h3' := y2 ws (SqL.of (s.lst h'))
    rw [h1] at h3; cases h3
    rw [h1'] at h3'; cases h3'
    exact .inr ⟨T, _, _, rfl, hT, rfl, rfl, .cons h2 (.cons h2' .nil)⟩
theorem feed_zipT {a b : Addr} {vs ws : List V} {xs ys : List PyData} (h : SqT K F a vs) (d : DnA K F vs xs) (h' : SqT K F b ws) (d' : DnA K F ws ys) : Feed K (ItzT K a b) F (zipL xs ys) where
  go := fun i H s hi => by
    rw [zip_len] at hi
    obtain ⟨v, e⟩ := getV d (show i < xs.length by omega)
    obtain ⟨w, e'⟩ := getV d' (show i < ys.length by omega)
    exact ⟨vs, ws, v, w, s.sqT h, s.sqT h', e, e'⟩
  stop := fun i H s hi => by
    rw [zip_len] at hi
    have := d.len
    have := d'.len
    exact ⟨vs, ws, s.sqT h, s.sqT h', by omega⟩
  yld := fun i H x H' s y e he => by
    obtain ⟨T, z, w, rfl, hT, rfl, y1, y2⟩ := y
    obtain ⟨x', y', e1, e2, rfl⟩ := zip_get he
    obtain ⟨v, h1, h2⟩ := d.get e1
    obtain ⟨v', h1', h2'⟩ := d'.get e2
    have h3 := y1 vs (s.sqT h)
    have h3' := y2 ws (s.sqT h')
    rw [h1] at h3; cases h3
    rw [h1'] at h3'; cases h3'
    exact .inr ⟨T, _, _, rfl, hT, rfl, rfl, .cons h2 (.cons h2' .nil)⟩
theorem feed_rev {a : Addr} {vs : List V} {ds : List PyData} (h : F a = some (.lst vs)) (d : DnA K F vs ds) : Feed K (Itv K a vs.length) F ds.reverse where
  go := fun i H s hi => by
    rw [List.length_reverse, ← d.len] at hi
    exact ⟨hi, vs, vs[vs.length - 1 - i]'(by omega), SqL.of (s.lst h), List.getElem?_eq_getElem _⟩
  stop := fun i H s hi => by rw [List.length_reverse, ← d.len] at hi; exact hi
  yld := fun i H x H' s y e he => by
    obtain ⟨rfl, y⟩ := y
    have hi : i < ds.length := by
      have := (List.getElem?_eq_some_iff.mp he).1
      rw [List.length_reverse] at this
      exact this
    rw [List.getElem?_reverse hi] at he
    obtain ⟨v, h1, h2⟩ := d.get he
    have h3 := y vs (SqL.of (s.lst h))
    rw [d.len, h1] at h3; cases h3
    exact .inl ⟨rfl, h2⟩
theorem feed_revT {a : Addr} {vs : List V} {ds : List PyData} (h : SqT K F a vs) (d : DnA K F vs ds) : Feed K (ItvT K a vs.length) F ds.reverse where
  go := fun i H s hi => by
    rw [List.length_reverse, ← d.len] at hi
    exact ⟨hi, vs, vs[vs.length - 1 - i]'(by omega), s.sqT h, List.getElem?_eq_getElem _⟩
  stop := fun i H s hi => by rw [List.length_reverse, ← d.len] at hi; exact hi
  yld := fun i H x H' s y e he => by
    obtain ⟨rfl, y⟩ := y
    have hi : i < ds.length := by
      have := (List.getElem?_eq_some_iff.mp he).1
      rw [List.length_reverse] at this
      exact this
    rw [List.getElem?_reverse hi] at he
    obtain ⟨v, h1, h2⟩ := d.get he
    have h3 := y vs (s.sqT h)
    rw [d.len, h1] at h3; cases h3
    exact .inl ⟨rfl, h2⟩
end
section
variable {X : Cx} {A : List (Nat × Addr)} {G : Hp} {cs : CS} {pins : List (Addr × Obj)} {s : Shared} {σ : L2.St} {H F : Hp} {ρ ρ' : Env} {o : Ov} {tg : Expr}
/-- an iterable's reading -/
def tEvG (K : Frag) (A : List (Nat × Addr)) (G : Hp) (cs : CS) (ig : IG) : TI := fun σ H R => ∃ F ρ ds ρ', Rel K A G F H σ ρ ∧ evG cs ig ρ = some (ds, ρ') ∧ ∀ J F' H', Ext G F F' → Rel K A G F' H' σ ρ' → Feed K J F' ds → ds.length ≤ sizeLine → R J H'
abbrev SG (X : Cx) (A : List (Nat × Addr)) (G : Hp) (cs : CS) (tg e : Expr) (ig : IG) : Prop := PI X tg e (tEvG X.K A G cs ig)
theorem seqOf_some {d : PyData} {xs : List PyData} (h : seqOf d = some xs) : d = .list xs ∨ d = .tuple xs := by
  cases d <;> first | (cases h; exact .inl rfl) | (cases h; exact .inr rfl) | cases h
theorem charsOf_some {d : PyData} {xs : List PyData} (h : charsOf d = some xs) : ∃ z, d = .str z ∧ z.length ≤ sizeLine ∧ xs = z.cps.toList.map fun c => .str ⟨#[c]⟩ := by
  cases d with
  | str z =>
    have h : (if z.length ≤ ll then some (z.cps.toList.map fun c => PyData.str ⟨#[c]⟩) else none) = some xs := h
    by_cases hl : z.length ≤ ll
    · rw [if_pos hl] at h
      exact ⟨z, rfl, by rw [← ll_eq]; exact hl, (Option.some.inj h).symm⟩
    · rw [if_neg hl] at h
      cases h
  | _ => cases h
theorem feed_str {K : Frag} {F : Hp} {z : Str} : Feed K (Its z) F (z.cps.toList.map fun c => .str ⟨#[c]⟩) where
  go := fun i H _ hi => by
    show i < z.cps.size
    simpa using hi
  stop := fun i H _ hi => by
    show z.cps.size ≤ i
    simpa using hi
  yld := fun i H x H' _ y d he => by
    obtain ⟨rfl, c, hc, rfl⟩ := y
    have e : d = .str ⟨#[c]⟩ := by
      rw [List.getElem?_map] at he
      have hc' : z.cps.toList[i]? = some c := by simpa using hc
      rw [hc'] at he
      cases he
      rfl
    rw [e]
    exact .inl ⟨rfl, .str _⟩
theorem listOf_some {d : PyData} {xs : List PyData} (h : listOf d = some xs) : d = .list xs := by
  cases d <;> first | (cases h; rfl) | cases h
theorem pairOf_some {d e : PyData} {p : List PyData × List PyData} (h : pairOf d e = some p) : (d = .list p.1 ∧ e = .list p.2) ∨ (d = .tuple p.1 ∧ e = .tuple p.2) := by
  cases d <;> cases e <;> first | (cases h; exact .inl ⟨rfl, rfl⟩) | (cases h; exact .inr ⟨rfl, rfl⟩) | cases h
theorem dn_list {K : Frag} {v : V} {xs : List PyData} (h : Dn K F v (.list xs)) : ∃ a vs, v = .ref a ∧ F a = some (.lst vs) ∧ DnA K F vs xs := by
  cases h with
  | lst h1 h2 => exact ⟨_, _, rfl, h1, h2⟩
theorem dn_tup {K : Frag} {v : V} {xs : List PyData} (h : Dn K F v (.tuple xs)) : ∃ a vs, v = .ref a ∧ SqT K F a vs ∧ DnA K F vs xs := by
  cases h with
  | tup h1 h2 => exact ⟨_, _, rfl, h1, h2⟩
theorem sg_seq {e : Expr} {ie : IE} (he : SE X A G cs e ie) : SG X A G cs tg e (.seq ie) := by
  refine ⟨fun pins s σ H R I ⟨F, ρ, ds, ρ', R0, h, q⟩ => ?_⟩
  unfold evG at h
  obtain ⟨⟨o1, ρ1⟩, e1, h⟩ := Option.bind_eq_some_iff.mp h
  obtain ⟨xs, e2, h⟩ := Option.map_eq_some_iff.mp h
  cases h
  have e3 : (seqOf o1.d = some ds) ∨ charsOf o1.d = some ds := by
    cases q2 : seqOf o1.d with
    | some ys => rw [q2] at e2; exact .inl e2
    | none => rw [q2] at e2; exact .inr e2
  rcases e3 with e2 | e2
  case inr =>
    obtain ⟨z, hz, hl, rfl⟩ := charsOf_some e2
    refine (pi_str he.pe).run pins s σ H R I ⟨F, ρ, o1, _, R0, e1, fun v H1 sz p => ?_⟩
    obtain ⟨F1, x1, R1, d1⟩ := p.toD
    rw [hz] at d1
    cases d1
    refine ⟨z, rfl, q _ F1 H1 x1 R1 feed_str ?_⟩
    rw [List.length_map]
    exact hl
  rcases seqOf_some e2 with z | z
  · refine (pi_list he.pe).run pins s σ H R I ⟨F, ρ, o1, _, R0, e1, fun v H1 sz p => ?_⟩
    obtain ⟨F1, x1, R1, d1⟩ := p.toD
    rw [z] at d1
    obtain ⟨a, vs, rfl, a1, b1⟩ := dn_list d1
    exact ⟨a, rfl, ⟨vs, SqL.of (R1.sub _ _ a1)⟩, q _ F1 H1 x1 R1 (feed_list a1 b1) (by rw [← b1.len]; exact sz a vs (.inl (SqL.of (R1.sub _ _ a1))))⟩
  · refine (pi_tup he.pe).run pins s σ H R I ⟨F, ρ, o1, _, R0, e1, fun v H1 sz p => ?_⟩
    obtain ⟨F1, x1, R1, d1⟩ := p.toD
    rw [z] at d1
    obtain ⟨a, vs, rfl, a1, b1⟩ := dn_tup d1
    exact ⟨a, rfl, ⟨vs, sqT_same R1.sub a1⟩, q _ F1 H1 x1 R1 (feed_tup a1 b1) (by rw [← b1.len]; exact sz a vs (.inr (sqT_same R1.sub a1)))⟩
theorem sg_rng1 {e : Expr} {ie : IE} {p pos : Pos} (he : SE X A G cs e ie) (hm : X.mg "range" = none) (hg : Gl X "range" := by rfl) (hs : starEach [e] X.env = (false, eval e X.env) :: starEach [] X.env := by rfl) : SG X A G cs tg (.Call (.Name "range" p) [e] [] pos) (.rng1 ie) := by
  refine ⟨fun pins s σ H R I ⟨F, ρ, ds, ρ', R0, h, q⟩ => ?_⟩
  unfold evG at h
  obtain ⟨⟨o1, ρ1⟩, e1, h⟩ := Option.bind_eq_some_iff.mp h
  obtain ⟨k, e2, h⟩ := Option.bind_eq_some_iff.mp h
  split at h
  · rename_i hk
    cases h
    simp only [small, Bool.and_eq_true, decide_eq_true_eq] at hk
    refine (pi_range1 hg hm (pa_cons he.pe pa_nil hs) hs).run pins s σ H R I ⟨F, ρ, o1, _, R0, e1, fun v H1 sz p => ?_⟩
    obtain ⟨F1, x1, R1, d1⟩ := p.toD
    rw [intOf_some e2] at d1
    cases d1
    refine ⟨k, rfl, hk.1.1, hk.1.2, q _ F1 H1 x1 R1 feed_rng ?_⟩
    have : sizeLine = 16777216 := sizeLine_eq
    have : ((ll : Nat) : Int) = 16777216 := rfl
    simp only [rngD, List.length_map, List.length_range]
    omega
  · cases h
theorem sg_rng2 {a b : Expr} {ia ib : IE} {p pos : Pos} (ha : SE X A G cs a ia) (hb : SE X A G cs b ib) (hm : X.mg "range" = none) (hg : Gl X "range" := by rfl) (hs : starEach [a, b] X.env = (false, eval a X.env) :: starEach [b] X.env := by rfl) (hs2 : starEach [b] X.env = (false, eval b X.env) :: starEach [] X.env := by rfl) :
    SG X A G cs tg (.Call (.Name "range" p) [a, b] [] pos) (.rng2 ia ib) := by
  refine ⟨fun pins s σ H R I ⟨F, ρ, ds, ρ', R0, h, q⟩ => ?_⟩
  unfold evG at h
  obtain ⟨⟨o1, ρ1⟩, e1, h⟩ := Option.bind_eq_some_iff.mp h
  obtain ⟨⟨o2, ρ2⟩, e2, h⟩ := Option.bind_eq_some_iff.mp h
  obtain ⟨i, e3, h⟩ := Option.bind_eq_some_iff.mp h
  obtain ⟨j, e4, h⟩ := Option.bind_eq_some_iff.mp h
  split at h
  · rename_i hk
    cases h
    simp only [small, Bool.and_eq_true, decide_eq_true_eq] at hk
    refine (pi_range2 hg hm (pa_cons ha.pe (pa_cons hb.pe pa_nil hs2) hs) (by rw [hs, hs2]; rfl) (by rw [hs2]; rfl)).run pins s σ H R I ⟨F, ρ, o1, ρ1, R0, e1, fun v H1 sz p => ?_⟩
    obtain ⟨F1, x1, R1, d1⟩ := p.toD
    refine ⟨F1, ρ1, o2, _, R1, e2, fun v2 H2 sz2 p2 => ?_⟩
    obtain ⟨F2, x2, R2, d2⟩ := p2.toD
    rw [intOf_some e3] at d1
    rw [intOf_some e4] at d2
    cases d1
    cases d2
    refine ⟨i, j, rfl, ⟨hk.1.1.1, hk.1.1.2, hk.1.2.1, hk.1.2.2⟩, q _ F2 H2 (x1.trans x2) R2 feed_rng ?_⟩
    have : sizeLine = 16777216 := sizeLine_eq
    have : ((ll : Nat) : Int) = 16777216 := rfl
    simp only [rngD, List.length_map, List.length_range]
    omega
  · cases h
theorem sg_enum {e : Expr} {ie : IE} {elts : List Expr} {kk : Nat} {tpos p pos : Pos} (he : SE X A G cs e ie) (hm : X.mg "enumerate" = none) (hg : Gl X "enumerate" := by rfl) (hs : starEach [e] X.env = (false, eval e X.env) :: starEach [] X.env := by rfl) : SG X A G cs (.Tuple elts kk tpos) (.Call (.Name "enumerate" p) [e] [] pos) (.enum ie) := by
  refine ⟨fun pins s σ H R I ⟨F, ρ, ds, ρ', R0, h, q⟩ => ?_⟩
  unfold evG at h
  obtain ⟨⟨o1, ρ1⟩, e1, h⟩ := Option.bind_eq_some_iff.mp h
  obtain ⟨xs, e2, h⟩ := Option.map_eq_some_iff.mp h
  cases h
  refine (pi_enum2 hg hm (pa_cons he.pe pa_nil hs) hs).run pins s σ H R I ⟨F, ρ, o1, _, R0, e1, fun v H1 sz p => ?_⟩
  obtain ⟨F1, x1, R1, d1⟩ := p.toD
  rcases seqOf_some e2 with z | z
  · rw [z] at d1
    obtain ⟨a, vs, rfl, a1, b1⟩ := dn_list d1
    exact ⟨a, vs, rfl, .inl ⟨SqL.of (R1.sub _ _ a1), q _ F1 H1 x1 R1 (feed_enum a1 b1) (by rw [enum_len, ← b1.len]; exact sz a vs (.inl (SqL.of (R1.sub _ _ a1))))⟩⟩
  · rw [z] at d1
    obtain ⟨a, vs, rfl, a1, b1⟩ := dn_tup d1
    exact ⟨a, vs, rfl, .inr ⟨sqT_same R1.sub a1, q _ F1 H1 x1 R1 (feed_enumT a1 b1) (by rw [enum_len, ← b1.len]; exact sz a vs (.inr (sqT_same R1.sub a1)))⟩⟩
theorem sg_zip {a b : Expr} {ia ib : IE} {elts : List Expr} {kk : Nat} {tpos p pos : Pos} (ha : SE X A G cs a ia) (hb : SE X A G cs b ib) (hm : X.mg "zip" = none) (hg : Gl X "zip" := by rfl) (hs : starEach [a, b] X.env = (false, eval a X.env) :: starEach [b] X.env := by rfl) (hs2 : starEach [b] X.env = (false, eval b X.env) :: starEach [] X.env := by rfl)
    (hpl : (backTo pos (starEach [b] X.env)).any (·.1) = false := by rfl) : SG X A G cs (.Tuple elts kk tpos) (.Call (.Name "zip" p) [a, b] [] pos) (.zip ia ib) := by
  refine ⟨fun pins s σ H R I ⟨F, ρ, ds, ρ', R0, h, q⟩ => ?_⟩
  unfold evG at h
  obtain ⟨⟨o1, ρ1⟩, e1, h⟩ := Option.bind_eq_some_iff.mp h
  obtain ⟨⟨o2, ρ2⟩, e2, h⟩ := Option.bind_eq_some_iff.mp h
  obtain ⟨⟨xs, ys⟩, e3, h⟩ := Option.map_eq_some_iff.mp h
  cases h
  refine (pi_zipA hg hm (pa_cons ha.pe (pa_cons hb.pe pa_nil hs2) hs) hs hpl).run pins s σ H R I ⟨F, ρ, o1, ρ1, R0, e1, fun v H1 sz p => ?_⟩
  obtain ⟨F1, x1, R1, d1⟩ := p.toD
  refine ⟨F1, ρ1, o2, _, R1, e2, fun v2 H2 sz2 p2 => ?_⟩
  obtain ⟨F2, x2, R2, d2⟩ := p2.toD
  have d1 := d1.mono x2.le
  rcases pairOf_some e3 with ⟨z1, z2⟩ | ⟨z1, z2⟩
  · rw [z1] at d1
    rw [z2] at d2
    obtain ⟨a, vs, rfl, a1, b1⟩ := dn_list d1
    obtain ⟨a', ws, rfl, a2, b2⟩ := dn_list d2
    refine ⟨a, a', vs, ws, rfl, .inl ⟨SqL.of (R2.sub _ _ a1), SqL.of (R2.sub _ _ a2), q _ F2 H2 (x1.trans x2) R2 (feed_zip a1 b1 a2 b2) ?_⟩⟩
    have := sz2 a vs (.inl (SqL.of (R2.sub _ _ a1)))
    have := b1.len
    rw [zip_len]
    dsimp only at *
    omega
  · rw [z1] at d1
    rw [z2] at d2
    obtain ⟨a, vs, rfl, a1, b1⟩ := dn_tup d1
    obtain ⟨a', ws, rfl, a2, b2⟩ := dn_tup d2
    refine ⟨a, a', vs, ws, rfl, .inr ⟨sqT_same R2.sub a1, sqT_same R2.sub a2, q _ F2 H2 (x1.trans x2) R2 (feed_zipT a1 b1 a2 b2) ?_⟩⟩
    have := sz2 a vs (.inr (sqT_same R2.sub a1))
    have := b1.len
    rw [zip_len]
    dsimp only at *
    omega
theorem sg_rev {e : Expr} {ie : IE} {p pos : Pos} (he : SE X A G cs e ie) (hm : X.mg "reversed" = none) (hg : Gl X "reversed" := by rfl) (hs : starEach [e] X.env = (false, eval e X.env) :: starEach [] X.env := by rfl) : SG X A G cs tg (.Call (.Name "reversed" p) [e] [] pos) (.rev ie) := by
  refine ⟨fun pins s σ H R I ⟨F, ρ, ds, ρ', R0, h, q⟩ => ?_⟩
  unfold evG at h
  obtain ⟨⟨o1, ρ1⟩, e1, h⟩ := Option.bind_eq_some_iff.mp h
  obtain ⟨xs, e2, h⟩ := Option.map_eq_some_iff.mp h
  cases h
  refine (pi_revA hg hm he.pe hs).run pins s σ H R I ⟨F, ρ, o1, _, R0, e1, fun v H1 sz p => ?_⟩
  obtain ⟨F1, x1, R1, d1⟩ := p.toD
  rcases seqOf_some e2 with z | z
  · rw [z] at d1
    obtain ⟨a, vs, rfl, a1, b1⟩ := dn_list d1
    exact ⟨a, vs, rfl, .inl ⟨SqL.of (R1.sub _ _ a1), q _ F1 H1 x1 R1 (feed_rev a1 b1) (by rw [List.length_reverse, ← b1.len]; exact sz a vs (.inl (SqL.of (R1.sub _ _ a1))))⟩⟩
  · rw [z] at d1
    obtain ⟨a, vs, rfl, a1, b1⟩ := dn_tup d1
    exact ⟨a, vs, rfl, .inr ⟨sqT_same R1.sub a1, q _ F1 H1 x1 R1 (feed_revT a1 b1) (by rw [List.length_reverse, ← b1.len]; exact sz a vs (.inr (sqT_same R1.sub a1)))⟩⟩

/-! ### targets -/
/-- a target's reading: data are stored -/
structure SP' (X : Cx) (A : List (Nat × Addr)) (tg : Expr) (is : List Nat) : Prop where
  run : ∀ (G : Hp) (pins : List (Addr × Obj)) (s : Shared) (σ : L2.St) (H F : Hp) (ρ : Env) (v : V) (u : Value) (d : PyData) (ρ' : Env), Inv X pins σ H s → RelV v u → Rel X.K A G F H σ ρ → Dn X.K F v d → bindPat is d ρ = some ρ' →
    wpAny (model X.prog X.w) X.A (assign tg X.env u) (fun _ s' => ∃ σ', Inv X pins σ' H s' ∧ Rel X.K A G F H σ' ρ' ∧ (∀ j, j ∉ is → σ'[j]? = σ[j]?) ∧ σ'.length = σ.length) X.xe s
structure SPs (X : Cx) (A : List (Nat × Addr)) (tgs : List Expr) (is : List Nat) : Prop where
  run : ∀ (G : Hp) (pins : List (Addr × Obj)) (s : Shared) (σ : L2.St) (H F : Hp) (ρ : Env) (vs : List V) (us : List Value) (ds : List PyData) (ρ' : Env), Inv X pins σ H s → Vals vs us → Rel X.K A G F H σ ρ → DnA X.K F vs ds → setAll is ds ρ = some ρ' →
    wpAny (model X.prog X.w) X.A (assignInOrder ((assignEach tgs X.env).map (·.2)) us) (fun _ s' => ∃ σ', Inv X pins σ' H s' ∧ Rel X.K A G F H σ' ρ' ∧ (∀ j, j ∉ is → σ'[j]? = σ[j]?) ∧ σ'.length = σ.length) X.xe s
theorem name_store {i : Nat} {x : Str} {p : Pos} {v : V} {u : Value} {d : PyData} (hN : X.N.Nodup) (hi : X.N[i]? = some x) (hx : Loc X.env.scope x) (hA : ∀ q ∈ A, q.1 ≠ i) (hf : X.fn x = true ∨ X.env.scope.names.lookup x = some .local) (I : Inv X pins σ H s) (r : RelV v u) (R : Rel X.K A G F H σ ρ) (h : Dn X.K F v d) :
    wpAny (model X.prog X.w) X.A (assign (.Name x p) X.env u) (fun _ s' => ∃ σ', Inv X pins σ' H s' ∧ Rel X.K A G F H σ' (setE ρ i (.imm d)) ∧ (∀ j, j ∉ [i] → σ'[j]? = σ[j]?) ∧ σ'.length = σ.length) X.xe s :=
  thn ((pg_name hN hi hx hf).run pins s σ H v u (fun σ' H' => σ' = σ.set i (some v) ∧ H' = H) I r ⟨rfl, rfl⟩) fun _ s' ⟨σ', H', I', e1, e2⟩ => by
    subst e1 e2
    exact ⟨_, I', R.store h hA, fun j hj => List.getElem?_set_ne (fun e => hj (by simp [e])), by simp⟩
theorem sp_name {i : Nat} {x : Str} {p : Pos} (hN : X.N.Nodup) (hA : ∀ q ∈ A, q.1 ≠ i) (hi : X.N[i]? = some x := by rfl) (hx : Loc X.env.scope x := by first | exact Or.inl rfl | exact Or.inr rfl)
    (hf : X.fn x = true ∨ X.env.scope.names.lookup x = some .local := by first | exact .inl rfl | exact .inr rfl | assumption) : SP' X A (.Name x p) [i] :=
  ⟨fun G pins s σ H F ρ v u d ρ' I r R h e => by
    unfold bindPat at e
    cases e
    exact name_store hN hi hx hA hf I r R h⟩
theorem sps_nil : SPs X A [] [] := ⟨fun G pins s σ H F ρ vs us ds ρ' I r R h e => by
  cases h with
  | nil => cases r; cases e; exact assignInOrder_nil ⟨σ, I, R, fun _ _ => rfl, rfl⟩
  | cons _ _ => cases e⟩
theorem sps_cons {i : Nat} {x : Str} {p : Pos} {es : List Expr} {is : List Nat} (hN : X.N.Nodup) (hA : ∀ q ∈ A, q.1 ≠ i) (hr : SPs X A es is) (hi : X.N[i]? = some x := by rfl) (hx : Loc X.env.scope x := by first | exact Or.inl rfl | exact Or.inr rfl)
    (hf : X.fn x = true ∨ X.env.scope.names.lookup x = some .local := by first | exact .inl rfl | exact .inr rfl | assumption)
    (hs : (assignEach (Expr.Name x p :: es) X.env).map (·.2) = assign (.Name x p) X.env :: (assignEach es X.env).map (·.2) := by rfl) : SPs X A (.Name x p :: es) (i :: is) := by
  refine ⟨fun G pins s σ H F ρ vs us ds ρ' I r R h e => ?_⟩
  cases h with
  | nil => cases e
  | cons h q =>
    cases r with
    | cons r1 r2 =>
      rw [hs]
      refine assignInOrder_cons (thn (name_store hN hi hx hA hf I r1 R h) fun _ s1 ⟨σ1, I1, R1, k1, l1⟩ => ?_)
      refine thn (hr.run G pins s1 σ1 H F _ _ _ _ ρ' I1 r2 R1 q (show setAll is _ (setE ρ i (.imm _)) = some ρ' from e)) fun _ s2 ⟨σ2, I2, R2, k2, l2⟩ => ⟨σ2, I2, R2, fun j hj => ?_, l2.trans l1⟩
      have h1 : j ∉ is := fun z => hj (List.mem_cons_of_mem _ z)
      have h2 : j ∉ [i] := fun z => hj (by rw [List.mem_singleton.mp z]; exact List.mem_cons_self)
      exact (k2 j h1).trans (k1 j h2)
theorem setAll_len : ∀ {is : List Nat} {ds : List PyData} {ρ ρ' : Env}, setAll is ds ρ = some ρ' → is.length = ds.length
  | [], [], _, _, _ => rfl
  | i :: is, d :: ds, _, _, h => by
    have := setAll_len (is := is) (ds := ds) (show setAll is ds _ = _ from h)
    simp [this]
  | [], _ :: _, _, _, h => by cases h
  | _ :: _, [], _, _, h => by cases h
theorem sp_tup {es : List Expr} {k i j : Nat} {is : List Nat} {pos : Pos} (hc : X.calm = true) (h : SPs X A es (i :: j :: is)) (hn : (assignEach es X.env).length = is.length + 2 := by rfl) (hst : (assignEach es X.env).findIdx? (·.1) = none := by rfl) : SP' X A (.Tuple es k pos) (i :: j :: is) := by
  refine ⟨fun G pins s σ H F ρ v u d ρ' I r R hd e => ?_⟩
  unfold bindPat at e
  split at e <;> first | (cases e; done) | skip
  · rename_i w; cases w
  · obtain ⟨a, vs, rfl, a1, b1⟩ := dn_tup hd
    cases r
    obtain ⟨its, rv, ht, hz⟩ := I.tuple (sqT_same R.sub a1)
    have hl : its.length = is.length + 2 := by
      have h1 := rv.length
      have h2 := b1.len
      have h3 := setAll_len e
      simp only [List.length_cons] at h3
      omega
    refine assign_Tuple_tuple (I.ok.hd hc) ht (by simp [hn, hl]) hst fun h' hx => ?_
    have I1 : Inv X pins σ H { s with heap := h' } := I.kept (t' := s.toks) fun b o e => hx b o (Nat.ne_of_lt (Heap.lt_size e)) e
    exact h.run G pins _ σ H F ρ vs _ _ ρ' I1 (by simpa using rv) R b1 e
end
end Ev
set_option Elab.async false
set_option linter.all false
set_option maxRecDepth 100000
/-! Ev10: comprehensions. -/
namespace Ev
open PySem PySem.Spec PyProof.Rows L2 RT RZ
section
variable {X : Cx} {A : List (Nat × Addr)} {G : Hp} {cs : CS} {pins : List (Addr × Obj)} {s : Shared} {σ : L2.St} {H F : Hp} {ρ ρ' : Env} {o : Ov} {tg : Expr}
theorem wipe_get {σ : L2.St} {j : Nat} : ∀ {vs : List Nat}, j ∉ vs → (wipe σ vs)[j]? = σ[j]?
  | [], _ => rfl
  | v :: vs, h => by
    unfold wipe
    rw [List.getElem?_set_ne (fun e => h (by rw [e]; exact List.mem_cons_self)), wipe_get fun z => h (List.mem_cons_of_mem _ z)]
theorem wipe_in {σ : L2.St} {j : Nat} : ∀ {vs : List Nat}, j ∈ vs → j < σ.length → (wipe σ vs)[j]? = some none
  | [], h, _ => by cases h
  | v :: vs, h, hl => by
    unfold wipe
    by_cases e : v = j
    · subst e
      rw [List.getElem?_set_self (by rw [wipe_length]; exact hl)]
    · rw [List.getElem?_set_ne e]
      rcases List.mem_cons.mp h with z | z
      · exact absurd z.symm e
      · exact wipe_in z hl
theorem wipe_ext {σ σ2 : L2.St} {vs : List Nat} (h : ∀ j, j ∉ vs → σ2[j]? = σ[j]?) (hl : σ2.length = σ.length) : wipe σ2 vs = wipe σ vs := by
  apply List.ext_getElem?
  intro j
  by_cases hj : j ∈ vs
  · by_cases hs : j < σ.length
    · rw [wipe_in hj hs, wipe_in hj (by rw [hl]; exact hs)]
    · rw [List.getElem?_eq_none (by rw [wipe_length]; omega), List.getElem?_eq_none (by rw [wipe_length]; omega)]
  · rw [wipe_get hj, wipe_get hj, h j hj]
/-- the slots of the block's own names forgotten -/
theorem Rel.wipe {K : Frag} {is : List Nat} {σ2 : L2.St} (R : Rel K A G F H σ ρ) (hA : ∀ p ∈ A, p.1 ∉ is) (hs : ∀ j, j ∉ is → σ2[j]? = σ[j]?) (hl : σ2.length = σ.length) : Rel K A G F H σ2 (clrAll is ρ) := by
  have g : ∀ j o, getE (clrAll is ρ) j = some o → j ∉ is ∧ getE ρ j = some o := fun j o h => by
    rw [getE_clrAll] at h
    split at h
    · cases h
    · rename_i z; exact ⟨z, h⟩
  refine ⟨R.frm, R.sub, fun j d h => ?_, fun j xs h => ?_, fun j k xs ys a h1 h2 e1 e2 => ?_, fun p hp => ?_, by rw [clrAll_len, hl]; exact R.len⟩
  · obtain ⟨z, h⟩ := g j _ h
    rw [hs j z]; exact R.imm j d h
  · obtain ⟨z, h⟩ := g j _ h
    rw [hs j z]; exact R.own j xs h
  · obtain ⟨z1, h1⟩ := g j _ h1
    obtain ⟨z2, h2⟩ := g k _ h2
    rw [hs j z1] at e1
    rw [hs k z2] at e2
    exact R.dis j k xs ys a h1 h2 e1 e2
  · rw [hs p.1 (hA p hp)]; exact R.pin p hp
/-- within a comprehension the list that is made is fenced off -/
theorem Rel.fence {K : Frag} {D : Addr} {acc : List V} (R : Rel K A G F H σ ρ) (hD : H D = some (.lst acc)) (n : ∀ i xs, getE ρ i = some (.own xs) → σ[i]? ≠ some (some (.ref D))) : Rel K A (upd G D (.lst acc)) F H σ ρ := by
  refine ⟨fun b x h => ?_, R.sub, R.imm, fun i xs h => ?_, R.dis, R.pin, R.len⟩
  · by_cases z : b = D
    · subst z; rw [upd_same] at h; rw [← h]; exact hD
    · rw [upd_ne z] at h; exact R.frm b x h
  · obtain ⟨a, h0, g, f, r⟩ := R.own i xs h
    have z : a ≠ D := fun z => n i xs h (by rw [← z]; exact h0)
    exact ⟨a, h0, by rw [upd_ne z]; exact g, f, r⟩
theorem Rel.unfence {K : Frag} {D : Addr} {acc : List V} (R : Rel K A (upd G D (.lst acc)) F H σ ρ) (hG : G D = none) : Rel K A G F H σ ρ := by
  have s : Same G (upd G D (.lst acc)) := same_upd hG
  refine ⟨s.trans R.frm, R.sub, R.imm, fun i xs h => ?_, R.dis, R.pin, R.len⟩
  obtain ⟨a, h0, g, f, r⟩ := R.own i xs h
  exact ⟨a, h0, s.free g, f, r⟩
theorem Rel.fenced {K : Frag} {D : Addr} {acc : List V} (R : Rel K A (upd G D (.lst acc)) F H σ ρ) : H D = some (.lst acc) ∧ ∀ i xs, getE ρ i = some (.own xs) → σ[i]? ≠ some (some (.ref D)) := by
  refine ⟨R.frm D _ upd_same, fun i xs h e => ?_⟩
  obtain ⟨a, h0, g, _⟩ := R.own i xs h
  rw [e] at h0; cases h0
  rw [upd_same] at g; cases g
theorem Ext.unfence {F' : Hp} {D : Addr} {acc : List V} (x : Ext (upd G D (.lst acc)) F F') (hG : G D = none) : Ext G F F' ∧ (F D = none → F' D = none) :=
  ⟨⟨x.le, fun b h g => x.new b h (fun z => g ((same_upd (o := .lst acc) hG).free z))⟩, fun h => x.new D h (by rw [upd_same]; simp)⟩
/-- writing the fenced list -/
theorem Rel.grown {K : Frag} {D : Addr} {acc ws : List V} (R : Rel K A G F H σ ρ) (hG : G D = none) (hF : F D = none) (n : ∀ i xs, getE ρ i = some (.own xs) → σ[i]? ≠ some (some (.ref D))) : Rel K A G F (upd H D (.lst ws)) σ ρ := by
  have s : ∀ T : Hp, T D = none → Same T H → Same T (upd H D (.lst ws)) := fun T t s b x q => by
    have z : b ≠ D := fun z => by rw [z, t] at q; cases q
    rw [upd_ne z]; exact s b x q
  refine ⟨s G hG R.frm, s F hF R.sub, R.imm, fun i xs h => ?_, R.dis, R.pin, R.len⟩
  obtain ⟨a, h0, g, f, vs, h1, d⟩ := R.own i xs h
  have z : a ≠ D := fun z => n i xs h (by rw [← z]; exact h0)
  exact ⟨a, h0, g, f, vs, by rw [upd_ne z]; exact h1, d⟩
theorem backE_len (old : Env) : ∀ (is : List Nat) (ρ : Env), (backE old is ρ).length = ρ.length
  | [], _ => rfl
  | i :: is, ρ => by
    unfold backE
    split
    · rw [setE_len, backE_len old is ρ]
    · rw [clrE_len, backE_len old is ρ]
/-- behind a comprehension -/
theorem Rel.back {K : Frag} {σ0 : L2.St} {old : Env} (Ro : ∀ i d, getE old i = some (.imm d) → ∃ v, σ0[i]? = some (some v) ∧ Dn K F v d) : ∀ {is : List Nat} {ρ : Env}, Rel K A G F H σ0 (clrAll is ρ) → Rel K A G F H σ0 (backE old is ρ)
  | [], _, R => R
  | i :: is, ρ, R => by
    have e : ∀ T : Env, clrE (clrE T i) i = clrE T i := fun T => by unfold clrE; simp
    -- the tail first, its slot i cleared
    have h1 : Rel K A G F H σ0 (clrAll is (clrE ρ i)) := by
      have : clrAll is (clrE ρ i) = clrAll (i :: is) ρ := by
        apply List.ext_getElem?
        intro j
        have q : getE (clrAll is (clrE ρ i)) j = getE (clrAll (i :: is) ρ) j := by
          rw [getE_clrAll, getE_clrAll, getE_clr]
          by_cases z1 : j ∈ is
          · simp [z1]
          · by_cases z2 : i = j
            · simp [z1, z2]
            · have z3 : ¬ j = i := fun z => z2 z.symm
              simp [z1, z2, z3]
        by_cases hl : j < ρ.length
        · have l1 : j < (clrAll is (clrE ρ i)).length := by rw [clrAll_len, clrE_len]; exact hl
          have l2 : j < (clrAll (i :: is) ρ).length := by rw [clrAll_len]; exact hl
          unfold getE at q
          rw [List.getElem?_eq_getElem l1, List.getElem?_eq_getElem l2] at q ⊢
          have q' : (clrAll is (clrE ρ i))[j] = (clrAll (i :: is) ρ)[j] := q
          rw [q']
        · rw [List.getElem?_eq_none (by rw [clrAll_len, clrE_len]; omega), List.getElem?_eq_none (by rw [clrAll_len]; omega)]
      rw [this]; exact R
    have h2 := Rel.back Ro (is := is) (ρ := clrE ρ i) h1
    have h3 : ∀ j, j ≠ i → getE (backE old is (clrE ρ i)) j = getE (backE old is ρ) j := fun j hj => by
      clear h1 h2 R
      induction is with
      | nil => show getE (clrE ρ i) j = getE ρ j; rw [getE_clr, if_neg (fun z => hj z.symm)]
      | cons k ks ih =>
        unfold backE
        split
        · rw [getE_set, getE_set, backE_len, backE_len, clrE_len, ih]
        · rw [getE_clr, getE_clr, ih]
    have sub : ∀ T : Env, T.length = ρ.length → (∀ j o, getE T j = some o → (j ≠ i ∧ getE (backE old is ρ) j = some o) ∨ (j = i ∧ ∃ d v, o = .imm d ∧ σ0[i]? = some (some v) ∧ Dn K F v d)) → Rel K A G F H σ0 T := fun T hl g => by
      refine ⟨h2.frm, h2.sub, fun j d h => ?_, fun j xs h => ?_, fun j k xs ys a h1' h2' e1 e2 => ?_, h2.pin, ?_⟩
      · rcases g j _ h with ⟨n, h⟩ | ⟨rfl, d', v, q, hv, dn⟩
        · exact h2.imm j d (by rw [h3 j n]; exact h)
        · cases q; exact ⟨v, hv, dn⟩
      · rcases g j _ h with ⟨n, h⟩ | ⟨rfl, d', v, q, _⟩
        · exact h2.own j xs (by rw [h3 j n]; exact h)
        · cases q
      · rcases g j _ h1' with ⟨n1, h1'⟩ | ⟨_, d', v, q, _⟩
        · rcases g k _ h2' with ⟨n2, h2'⟩ | ⟨_, d', v, q, _⟩
          · exact h2.dis j k xs ys a (by rw [h3 j n1]; exact h1') (by rw [h3 k n2]; exact h2') e1 e2
          · cases q
        · cases q
      · have := h2.len
        rw [backE_len, clrE_len] at this
        rw [hl]; exact this
    unfold backE
    split
    · rename_i d w
      obtain ⟨v, hv, dn⟩ := Ro i d w
      refine sub _ (by rw [setE_len, backE_len]) fun j o h => ?_
      rw [getE_set] at h
      split at h
      · rename_i z
        cases h
        exact .inr ⟨z.1.symm, d, v, rfl, hv, dn⟩
      · rename_i z
        by_cases hj : j = i
        · subst hj
          exact absurd (getE_lt h) (fun q => z ⟨rfl, q⟩)
        · exact .inl ⟨hj, h⟩
    · refine sub _ (by rw [clrE_len, backE_len]) fun j o h => ?_
      rw [getE_clr] at h
      split at h
      · cases h
      · rename_i z
        exact .inl ⟨fun q => z q.symm, h⟩
/-- a target, as a reading of HandS -/
def gPat (K : Frag) (A : List (Nat × Addr)) (is : List Nat) : TG := fun v σ H Q => ∃ G F ρ d ρ', Rel K A G F H σ ρ ∧ Dn K F v d ∧ bindPat is d ρ = some ρ' ∧ ∀ σ', Rel K A G F H σ' ρ' → (∀ j, j ∉ is → σ'[j]? = σ[j]?) → σ'.length = σ.length → Q σ' H
theorem SP'.pg {is : List Nat} (h : SP' X A tg is) : PG X tg (gPat X.K A is) := by
  refine ⟨fun pins s σ H v u Q I r ⟨G, F, ρ, d, ρ', R, hd, e, k⟩ => ?_⟩
  exact thn (h.run G pins s σ H F ρ v u d ρ' I r R hd e) fun _ s' ⟨σ', I', R', q1, q2⟩ => ⟨σ', H, I', k σ' R' q1 q2⟩
/-- the ifs of a comprehension: none, or one -/
structure STs (X : Cx) (A : List (Nat × Addr)) (G : Hp) (cs : CS) (ifs : List Expr) (it : IT) : Prop where
  pts : PTs X ifs (tEvT X.K A G cs it)
theorem sts_nil : STs X A G cs [] .tt := ⟨⟨fun pins s σ H Q I ⟨F, ρ, b, ρ', R, e, k⟩ => by
  cases e
  exact (pts_nil (X := X)).run pins s σ H Q I (k F H .refl R)⟩⟩
theorem yl_ok {K : Frag} {x : V} {H' : Hp} {d : PyData} (R : Rel K A G F H σ ρ) (y : Yl K F H x H' d) : ∃ F', Ext G F F' ∧ Rel K A G F' H' σ ρ ∧ Dn K F' x d ∧ Same H H' := by
  rcases y with ⟨rfl, h⟩ | ⟨p, vs, es, rfl, hp, rfl, rfl, h⟩
  · exact ⟨F, .refl, R, h, .refl _⟩
  · obtain ⟨F', x, R', d'⟩ := R.newT hp h
    exact ⟨F', x, R', d', same_upd hp⟩
theorem Yl.mono {K : Frag} {F' H' : Hp} {x : V} {d : PyData} (s : Same F F') (y : Yl K F H x H' d) : Yl K F' H x H' d := by
  rcases y with ⟨e, h⟩ | ⟨p, vs, es, e1, hp, e2, e3, h⟩
  · exact .inl ⟨e, h.mono s⟩
  · exact .inr ⟨p, vs, es, e1, hp, e2, e3, h.mono s⟩
theorem backE_own {old : Env} {j : Nat} {ys : List PyData} : ∀ {is : List Nat} {ρ : Env}, getE (backE old is ρ) j = some (.own ys) → j ∉ is ∧ getE ρ j = some (.own ys)
  | [], _, h => ⟨by simp, h⟩
  | i :: is, ρ, h => by
    unfold backE at h
    split at h
    · rw [getE_set] at h
      split at h
      · cases h
      · rename_i z
        obtain ⟨h1, h2⟩ := backE_own h
        refine ⟨fun q => ?_, h2⟩
        rcases List.mem_cons.mp q with rfl | q
        · exact z ⟨rfl, getE_lt h⟩
        · exact h1 q
    · rw [getE_clr] at h
      split at h
      · cases h
      · rename_i z
        obtain ⟨h1, h2⟩ := backE_own h
        refine ⟨fun q => ?_, h2⟩
        rcases List.mem_cons.mp q with rfl | q
        · exact z rfl
        · exact h1 q
/-- the ends of a turn -/
theorem Rel.turn {K : Frag} {D : Addr} {acc ws : List V} {is : List Nat} {σ2 : L2.St} (R : Rel K A (upd G D (.lst acc)) F H σ2 ρ) (hG : G D = none) (hF : F D = none) (hA : ∀ p ∈ A, p.1 ∉ is) (hs : ∀ j, j ∉ is → σ[j]? = σ2[j]?) (hl : σ.length = σ2.length) :
    Rel K A (upd G D (.lst ws)) F (upd H D (.lst ws)) σ (clrAll is ρ) := by
  obtain ⟨_, n⟩ := R.fenced
  have R1 := (R.unfence hG).wipe hA hs hl
  have n1 : ∀ i xs, getE (clrAll is ρ) i = some (.own xs) → σ[i]? ≠ some (some (.ref D)) := fun i xs h => by
    rw [getE_clrAll] at h
    split at h
    · cases h
    · rename_i z
      rw [hs i z]
      exact n i xs h
  exact (Rel.grown (acc := acc) R1 hG hF n1).fence upd_same n1
def tEvX (K : Frag) (A : List (Nat × Addr)) (cs : CS) (ie : IE) : TE := fun σ H Q => ∃ G, tEv K A G cs ie σ H Q
def tEvTX (K : Frag) (A : List (Nat × Addr)) (cs : CS) (it : IT) : TT := fun σ H Q => ∃ G, tEvT K A G cs it σ H Q
theorem lc_read {K : Frag} {is : List Nat} {ig : IG} {it : IT} {ie : IE} (R : Rel K A G F H σ ρ) (h : ev cs (.lc is ig it ie) ρ = some (o, ρ')) (hA : ∀ p ∈ A, p.1 ∉ is) {Q : VK} (k : ∀ v H', Post K A G F σ ρ' o v H' → Q v H') :
    tLc (tEvG K A G cs ig) (gPat K A is) (tEvTX K A cs it) (tEvX K A cs ie) is σ H Q := by
  unfold ev at h
  obtain ⟨⟨ds, ρ1⟩, eG, h⟩ := Option.bind_eq_some_iff.mp h
  obtain ⟨⟨items, ρ2⟩, eL, h⟩ := Option.map_eq_some_iff.mp h
  cases h
  refine ⟨F, ρ, ds, ρ1, R, eG, fun J F1 H1 x1 R1 feed hlen D hD => ?_⟩
  have hGD : G D = none := R1.frm.free hD
  have hag : ∀ j, j ∉ is → (L2.wipe σ is)[j]? = σ[j]? := fun j hj => wipe_get hj
  have hlw : (L2.wipe σ is).length = σ.length := wipe_length σ is
  refine ⟨fun i m H => m + i = ds.length ∧ ∃ F2 ρ3 accV acc rest, Ext G F1 F2 ∧ Rel K A (upd G D (.lst accV)) F2 H (L2.wipe σ is) ρ3 ∧ F2 D = none ∧ DnA K F2 accV acc ∧ acc.length ≤ i ∧ goLc is (evT cs it) (ev cs ie) (ds.drop i) ρ3 = some (rest, ρ2) ∧ items = acc ++ rest,
    ⟨ds.length, by simp, F1, clrAll is ρ1, [], [], items, .refl, ?_, R1.sub.free hD, .nil, Nat.zero_le _, by simpa using eL, rfl⟩, ?_⟩
  · have n : ∀ i xs, getE (clrAll is ρ1) i = some (.own xs) → (L2.wipe σ is)[i]? ≠ some (some (.ref D)) := fun i xs h e => by
      rw [getE_clrAll] at h
      split at h
      · cases h
      · rename_i z
        rw [hag i z] at e
        obtain ⟨a, h0, o⟩ := R1.own i xs h
        rw [e] at h0; cases h0
        exact o.ne hD rfl
    exact ((R1.wipe hA hag hlw).grow (same_upd hD)).fence upd_same n
  · rintro i m H2 ⟨hm, F2, ρ3, accV, acc, rest, x2, R2, hF2, dA, hac, eR, ei⟩
    have hsub : Same F1 H2 := x2.le.trans R2.sub
    by_cases hi : i < ds.length
    · refine .inr ⟨feed.go i H2 (.of hsub) hi, _, fun H' hW => ⟨m - 1, by omega, hW⟩, fun x H3 y => ?_⟩
      have hd : ds[i]? = some ds[i] := List.getElem?_eq_getElem hi
      have yl := (feed.yld i H2 x H3 (.of hsub) y _ hd).mono x2.le
      rw [List.drop_eq_getElem_cons hi] at eR
      unfold goLc at eR
      obtain ⟨ρ4, eB, eR⟩ := Option.bind_eq_some_iff.mp eR
      obtain ⟨⟨b, ρ5⟩, eT, eR⟩ := Option.bind_eq_some_iff.mp eR
      obtain ⟨F3, x3, R3, dn3, s3⟩ := yl_ok R2 yl
      refine ⟨_, F3, ρ3, _, ρ4, R3, dn3, eB, fun σ2 Rσ hk hl => ⟨?_, ?_⟩⟩
      · exact wipe_ext (fun j hj => (hk j hj).trans (hag j hj)) (hl.trans hlw)
      · refine ⟨_, F3, ρ4, b, ρ5, Rσ, eT, fun F4 H4 x4 R4 => ?_⟩
        have hk' : ∀ j, j ∉ is → (L2.wipe σ is)[j]? = σ2[j]? := fun j hj => (hk j hj).symm
        obtain ⟨u3, w3⟩ := x3.unfence hGD
        obtain ⟨u4, w4⟩ := x4.unfence hGD
        cases b with
        | true =>
          obtain ⟨⟨o5, ρ6⟩, eE, eR⟩ := Option.bind_eq_some_iff.mp eR
          obtain ⟨⟨r7, ρ7⟩, eN, eR⟩ := Option.map_eq_some_iff.mp eR
          cases eR
          refine L2.iteT ?_
          refine ⟨_, F4, ρ5, o5, ρ6, R4, eE, fun yv H5 _ p => ?_⟩
          obtain ⟨F5, x5, R5, d5⟩ := p.toD
          obtain ⟨u5, w5⟩ := x5.unfence hGD
          have ha := dA.len
          refine ⟨accV, R5.fenced.1, by omega, by omega, F5, clrAll is ρ6, accV ++ [yv], acc ++ [o5.d], r7, x2.trans (u3.trans (u4.trans u5)), R5.turn hGD (w5 (w4 (w3 hF2))) hA hk' hl.symm, w5 (w4 (w3 hF2)),
            (dA.mono (x3.le.trans (x4.le.trans x5.le))).app (.one d5), ?_, eN, ?_⟩
          · rw [List.length_append]
            show acc.length + 1 ≤ i + 1
            omega
          · rw [ei]; simp
        | false =>
          refine L2.iteF ?_
          refine ⟨by omega, F4, clrAll is ρ5, accV, acc, rest, x2.trans (u3.trans u4), ?_, w4 (w3 hF2), dA.mono (x3.le.trans x4.le), by omega, eR, ei⟩
          have R6 := R4.turn (ws := accV) hGD (w4 (w3 hF2)) hA hk' hl.symm
          have e6 : upd H4 D (.lst accV) = H4 := by
            funext b
            by_cases z : b = D
            · subst z; rw [upd_same]; exact R4.fenced.1.symm
            · rw [upd_ne z]
          rw [e6] at R6
          exact R6
    · have hie : i = ds.length ∨ ds.length < i := by omega
      have hi' : ds.drop i = [] := List.drop_eq_nil_of_le (by omega)
      rw [hi'] at eR
      cases eR
      refine .inl ⟨feed.stop i H2 (.of hsub) (by omega), k _ _ ⟨F2, x1.trans x2, ?_, D, rfl, ⟨hGD, hF2, accV, R2.fenced.1, ?_⟩, fun j ys h e => ?_⟩⟩
      · exact Rel.back (old := ρ1) (fun j d h => let ⟨v, h1, h2⟩ := R1.imm j d h; ⟨v, h1, h2.mono x2.le⟩) ((R2.unfence hGD).wipe (σ2 := σ) hA (fun j hj => (hag j hj).symm) hlw.symm)
      · rw [ei, List.append_nil]; exact dA
      · obtain ⟨h1, h2⟩ := backE_own h
        exact R2.fenced.2 j ys h2 ((hag j h1).trans e)
theorem se_lc {elt iter : Expr} {ifs : List Expr} {scope : Scope} {own : List (Str × Nat)} {pos : Pos} {ig : IG} {it : IT} {ie : IE} (hc : X.calm = true) (hN : X.N.Nodup) (hi : SG X A G cs tg iter ig) (ok : BlkOk X.N X.env.scope scope own) (hA : ∀ p ∈ A, p.1 ∉ own.map (·.2))
    (hg : ∀ (s : Shared) (H : Hp) (C : Addr) (cl : List (Str × Addr)) (fp : List Addr), SP' (X.blk s H scope (compEnvC scope cl C X.env) fp) A tg (own.map (·.2)))
    (ht : ∀ (G : Hp) (s : Shared) (H : Hp) (C : Addr) (cl : List (Str × Addr)) (fp : List Addr), STs (X.blk s H scope (compEnvC scope cl C X.env) fp) A G cs ifs it)
    (he : ∀ (G : Hp) (s : Shared) (H : Hp) (C : Addr) (cl : List (Str × Addr)) (fp : List Addr), SE (X.blk s H scope (compEnvC scope cl C X.env) fp) A G cs elt ie) (hs : ∀ x, foldedSetIterable iter X.env x = pure x := by intro _; rfl) :
    SE X A G cs (.ListComp elt [⟨tg, iter, ifs, 0⟩] scope pos) (.lc (own.map (·.2)) ig it ie) := by
  refine ⟨fun pins s σ H F ρ o ρ' I R h => ?_⟩
  refine (pe_lc (g := gPat X.K A (own.map (·.2))) (te := tEvX X.K A cs ie) (tt := tEvTX X.K A cs it) hc hN hi ok (fun s H C cl fp => (hg s H C cl fp).pg) (fun s H C cl fp => ⟨fun pins s' σ H Q I ⟨G', q⟩ => (ht G' s _ C cl fp).pts.run pins s' σ H Q I q⟩)
    (fun s H C cl fp => ⟨fun pins s' σ H Q I ⟨G', q⟩ => (he G' s _ C cl fp).pe.run pins s' σ H Q I q⟩) hs).run pins s σ H _ I ?_
  exact lc_read R h hA fun v H' p => p
theorem sts_one {c : Expr} {it : IT} (h : ST X A G cs c it) : STs X A G cs [c] it := ⟨pts_one h.pt⟩
end
end Ev
set_option Elab.async false
set_option linter.all false
set_option maxRecDepth 100000
/-! Ev11: statements. -/
namespace Ev
open PySem PySem.Spec PyProof.Rows L2 RT RZ
/-- what holds behind a statement -/
def EndS (K : Frag) (A : List (Nat × Addr)) (G F : Hp) (out : Out) (ρ : Env) : Ends where
  nx := fun σ H => out = .next ∧ ∃ F', Ext G F F' ∧ Rel K A G F' H σ ρ
  rt := fun v H => ∃ o σ F', out = .ret o ∧ Ext G F F' ∧ Rel K A G F' H σ ρ ∧ DnO K G F' H σ ρ v o
  bk := fun σ H => out = .brk ∧ ∃ F', Ext G F F' ∧ Rel K A G F' H σ ρ
  ct := fun σ H => out = .cont ∧ ∃ F', Ext G F F' ∧ Rel K A G F' H σ ρ
structure EndLe (E D : Ends) : Prop where
  nx : ∀ σ H, E.nx σ H → D.nx σ H
  rt : ∀ v H, E.rt v H → D.rt v H
  bk : ∀ σ H, E.bk σ H → D.bk σ H
  ct : ∀ σ H, E.ct σ H → D.ct σ H
theorem sp_le {X : Cx} {pins : List (Addr × Obj)} {E D : Ends} {f : Flow} {s : Shared} (h : L2.SP X pins E f s) (l : EndLe E D) : L2.SP X pins D f s := by
  cases f with
  | next => obtain ⟨σ, H, I, q⟩ := h; exact ⟨σ, H, I, l.nx _ _ q⟩
  | brk => obtain ⟨σ, H, I, q⟩ := h; exact ⟨σ, H, I, l.bk _ _ q⟩
  | cont => obtain ⟨σ, H, I, q⟩ := h; exact ⟨σ, H, I, l.ct _ _ q⟩
  | ret u => obtain ⟨v, σ, H, I, r, q⟩ := h; exact ⟨v, σ, H, I, r, l.rt _ _ q⟩
theorem endS_ext {K : Frag} {A : List (Nat × Addr)} {G F F1 : Hp} {out : Out} {ρ : Env} (x : Ext G F F1) : EndLe (EndS K A G F1 out ρ) (EndS K A G F out ρ) where
  nx := fun _ _ ⟨e, F', y, R⟩ => ⟨e, F', x.trans y, R⟩
  rt := fun _ _ ⟨o, σ, F', e, y, R, d⟩ => ⟨o, σ, F', e, x.trans y, R, d⟩
  bk := fun _ _ ⟨e, F', y, R⟩ => ⟨e, F', x.trans y, R⟩
  ct := fun _ _ ⟨e, F', y, R⟩ => ⟨e, F', x.trans y, R⟩
structure SS (X : Cx) (A : List (Nat × Addr)) (G : Hp) (cs : CS) (st : Stmt) (is : IS) : Prop where
  run : ∀ (pins : List (Addr × Obj)) (s : Shared) (σ : L2.St) (H F : Hp) (ρ : Env) (out : Out) (ρ' : Env), Inv X pins σ H s → Rel X.K A G F H σ ρ → evS cs is ρ = some (out, ρ') →
    wpAny (model X.prog X.w) X.A (exec st X.env) (L2.SP X pins (EndS X.K A G F out ρ')) X.xe s
structure SB' (X : Cx) (A : List (Nat × Addr)) (G : Hp) (cs : CS) (st : List Stmt) (is : ISs) : Prop where
  run : ∀ (pins : List (Addr × Obj)) (s : Shared) (σ : L2.St) (H F : Hp) (ρ : Env) (out : Out) (ρ' : Env), Inv X pins σ H s → Rel X.K A G F H σ ρ → evSs cs is ρ = some (out, ρ') →
    wpAny (model X.prog X.w) X.A (execs st X.env) (L2.SP X pins (EndS X.K A G F out ρ')) X.xe s
section
variable {X : Cx} {A : List (Nat × Addr)} {G : Hp} {cs : CS} {pins : List (Addr × Obj)} {s : Shared} {σ : L2.St} {H F : Hp} {ρ ρ' : Env} {o : Ov} {tg : Expr}
def tEvS (K : Frag) (A : List (Nat × Addr)) (G : Hp) (cs : CS) (is : IS) : TS := fun D σ H => ∃ F ρ out ρ', Rel K A G F H σ ρ ∧ evS cs is ρ = some (out, ρ') ∧ EndLe (EndS K A G F out ρ') D
theorem SS.ps {st : Stmt} {is : IS} (h : SS X A G cs st is) : PS X st (tEvS X.K A G cs is) := ⟨fun pins s σ H D I ⟨F, ρ, out, ρ', R, e, l⟩ => thn (h.run pins s σ H F ρ out ρ' I R e) fun _ _ q => sp_le q l⟩
def tEvSs (K : Frag) (A : List (Nat × Addr)) (G : Hp) (cs : CS) (is : ISs) : TS := fun D σ H => ∃ F ρ out ρ', Rel K A G F H σ ρ ∧ evSs cs is ρ = some (out, ρ') ∧ EndLe (EndS K A G F out ρ') D
theorem SB'.pss {st : List Stmt} {is : ISs} (h : SB' X A G cs st is) : PSs X st (tEvSs X.K A G cs is) := ⟨fun pins s σ H D I ⟨F, ρ, out, ρ', R, e, l⟩ => thn (h.run pins s σ H F ρ out ρ' I R e) fun _ _ q => sp_le q l⟩
/-! ### blocks -/
theorem sb_nil : SB' X A G cs [] .nil := ⟨fun pins s σ H F ρ out ρ' I R e => by
  cases e
  exact wpAny_execs_nil ⟨σ, H, I, rfl, F, .refl, R⟩⟩
theorem sb_cons {st : Stmt} {sts : List Stmt} {is : IS} {iss : ISs} (h1 : SS X A G cs st is) (h2 : SB' X A G cs sts iss) : SB' X A G cs (st :: sts) (.cons is iss) := by
  refine ⟨fun pins s σ H F ρ out ρ' I R e => ?_⟩
  unfold evSs at e
  obtain ⟨⟨o1, ρ1⟩, e1, e⟩ := Option.bind_eq_some_iff.mp e
  refine wpAny_execs_cons (thn (h1.run pins s σ H F ρ o1 ρ1 I R e1) fun f s1 q => ?_)
  cases f with
  | next =>
    obtain ⟨σ1, H1, I1, z, F1, x1, R1⟩ := q
    cases z
    exact thn (h2.run pins s1 σ1 H1 F1 ρ1 out ρ' I1 R1 e) fun _ _ q => sp_le q (endS_ext x1)
  | brk =>
    obtain ⟨σ1, H1, I1, z, F1, x1, R1⟩ := q
    cases z; cases e
    exact ⟨σ1, H1, I1, rfl, F1, x1, R1⟩
  | cont =>
    obtain ⟨σ1, H1, I1, z, F1, x1, R1⟩ := q
    cases z; cases e
    exact ⟨σ1, H1, I1, rfl, F1, x1, R1⟩
  | ret u =>
    obtain ⟨v, σ1, H1, I1, r, o, σ2, F1, z, x1, R1, d⟩ := q
    cases z; cases e
    exact ⟨v, σ1, H1, I1, r, o, σ2, F1, rfl, x1, R1, d⟩
/-! ### small ones -/
theorem ss_nope {st : Stmt} : SS X A G cs st .nope := ⟨fun pins s σ H F ρ out ρ' I R e => by cases e⟩
theorem store_post {v : V} {H1 : Hp} {i : Nat} {ρ1 : Env} (hA : ∀ p ∈ A, p.1 ≠ i) (p : Post X.K A G F σ ρ1 o v H1) : (EndS X.K A G F .next (setE ρ1 i o)).nx (σ.set i (some v)) H1 := by
  obtain ⟨F1, x1, R1, d⟩ := p
  cases o with
  | imm d' => exact ⟨rfl, F1, x1, R1.store d hA⟩
  | own xs =>
    obtain ⟨a, rfl, o, n⟩ := d
    exact ⟨rfl, F1, x1, R1.storeO o n hA⟩
theorem ss_set {i : Nat} {x : Str} {e : Expr} {ie : IE} {pos pos' : Pos} (hN : X.N.Nodup) (hA : ∀ p ∈ A, p.1 ≠ i) (he : SE X A G cs e ie) (hi : X.N[i]? = some x := by rfl) (hx : Loc X.env.scope x := by first | exact Or.inl rfl | exact Or.inr rfl)
    (hs : swapsWith e (some (.Name x pos')) pos.line X.env = pure false := by rfl) (hf : X.fn x = true ∨ X.env.scope.names.lookup x = some .local := by first | exact .inl rfl | exact .inr rfl | assumption) : SS X A G cs (.Assign [.Name x pos'] e pos) (.set i ie) := by
  refine ⟨fun pins s σ H F ρ out ρ' I R h => ?_⟩
  unfold evS at h
  obtain ⟨⟨o1, ρ1⟩, e1, h⟩ := Option.map_eq_some_iff.mp h
  cases h
  exact (ps_set hN hi hx he.pe hs hf).run pins s σ H _ I ⟨F, ρ, o1, ρ1, R, e1, fun v H1 _ p => store_post hA p⟩
/-- name = [..] on one line -/
theorem ss_setLc {i : Nat} {y : Str} {py : Pos} {elt iter : Expr} {ifs : List Expr} {scope : Scope} {own : List (Str × Nat)} {pos spos : Pos} {ig : IG} {it : IT} {ie : IE} (hc : X.calm = true) (hN : X.N.Nodup) (hA' : ∀ p ∈ A, p.1 ≠ i) (hi : SG X A G cs tg iter ig) (ok : BlkOk X.N X.env.scope scope own) (hA : ∀ p ∈ A, p.1 ∉ own.map (·.2))
    (hg : ∀ (s : Shared) (H : Hp) (C : Addr) (cl : List (Str × Addr)) (fp : List Addr), SP' (X.blk s H scope (compEnvC scope cl C X.env) fp) A tg (own.map (·.2)))
    (ht : ∀ (G : Hp) (s : Shared) (H : Hp) (C : Addr) (cl : List (Str × Addr)) (fp : List Addr), STs (X.blk s H scope (compEnvC scope cl C X.env) fp) A G cs ifs it)
    (he : ∀ (G : Hp) (s : Shared) (H : Hp) (C : Addr) (cl : List (Str × Addr)) (fp : List Addr), SE (X.blk s H scope (compEnvC scope cl C X.env) fp) A G cs elt ie)
    (hsw : swapsWith (.ListComp elt [⟨tg, iter, ifs, 0⟩] scope pos) (some (.Name y py)) spos.line X.env = pure true) (hy : X.N[i]? = some y := by rfl) (hyl : X.env.scope.names.lookup y = some .local := by rfl) (hs : ∀ x, foldedSetIterable iter X.env x = pure x := by intro _; rfl) :
    SS X A G cs (.Assign [.Name y py] (.ListComp elt [⟨tg, iter, ifs, 0⟩] scope pos) spos) (.set i (.lc (own.map (·.2)) ig it ie)) := by
  refine ⟨fun pins s σ H F ρ out ρ' I R h => ?_⟩
  unfold evS at h
  obtain ⟨⟨o1, ρ1⟩, e1, h⟩ := Option.map_eq_some_iff.mp h
  cases h
  refine (ps_setLc (g := gPat X.K A (own.map (·.2))) (te := tEvX X.K A cs ie) (tt := tEvTX X.K A cs it) hc hN hy hyl hsw hi ok (fun s H C cl fp => (hg s H C cl fp).pg) (fun s H C cl fp => ⟨fun pins s' σ H Q I ⟨G', q⟩ => (ht G' s _ C cl fp).pts.run pins s' σ H Q I q⟩)
    (fun s H C cl fp => ⟨fun pins s' σ H Q I ⟨G', q⟩ => (he G' s _ C cl fp).pe.run pins s' σ H Q I q⟩) hs).run pins s σ H _ I ?_
  exact lc_read R e1 hA fun v H1 p => store_post hA' p
theorem ss_unp {e : Expr} {ie : IE} {i j : Nat} {is : List Nat} {pos : Pos} (he : SE X A G cs e ie) (hp : SP' X A tg (i :: j :: is)) (hs : swapsWithSole [tg] e pos.line X.env = pure false := by rfl) (hw : swappedStores [tg] e X.env = pure none := by rfl)
    (h1 : (assignEach [tg] X.env).map (·.2) = [assign tg X.env] := by rfl) : SS X A G cs (.Assign [tg] e pos) (.unp (i :: j :: is) ie) := by
  refine ⟨fun pins s σ H F ρ out ρ' I R h => ?_⟩
  unfold evS at h
  obtain ⟨⟨o1, ρ1⟩, e1, h⟩ := Option.bind_eq_some_iff.mp h
  refine (ps_asg he.pe hp.pg hs hw h1).run pins s σ H _ I ⟨F, ρ, o1, ρ1, R, e1, fun v H1 _ p => ?_⟩
  obtain ⟨F1, x1, R1, d1⟩ := p.toD
  dsimp only at h d1
  split at h
  · rename_i ds w
    obtain ⟨ρ2, e2, h⟩ := Option.map_eq_some_iff.mp h
    cases h
    exact ⟨G, F1, ρ1, o1.d, _, R1, d1, by rw [w]; exact e2, fun σ' R' _ _ => ⟨rfl, F1, x1, R'⟩⟩
  · cases h
/-- a, b = x, y of two plain local names -/
theorem ss_par {i j : Nat} {x y : Str} {a b : Expr} {ies : IEs} {px py pt : Pos} {kt k2 pt2} {pos : Pos} (hc : X.calm = true) (hN : X.N.Nodup) (hij : i ≠ j) (hA : ∀ p ∈ A, p.1 ≠ i) (hA2 : ∀ p ∈ A, p.1 ≠ j) (ha : SA X A G cs [a, b] ies) (hi : X.N[i]? = some x := by rfl) (hj : X.N[j]? = some y := by rfl)
    (hx : X.env.scope.names.lookup x = some .local := by rfl) (hy : X.env.scope.names.lookup y = some .local := by rfl) (hw : swappedStores [.Tuple [.Name x px, .Name y py] kt pt] (.Tuple [a, b] k2 pt2) X.env = pure (some [x, y]) := by rfl)
    (hs : swapsWithSole [.Tuple [.Name x px, .Name y py] kt pt] (.Tuple [a, b] k2 pt2) pos.line X.env = pure false := by rfl) : SS X A G cs (.Assign [.Tuple [.Name x px, .Name y py] kt pt] (.Tuple [a, b] k2 pt2) pos) (.par [i, j] ies) := by
  refine ⟨fun pins s σ H F ρ out ρ' I R h => ?_⟩
  unfold evS at h
  obtain ⟨⟨as, ρ1⟩, e1, h⟩ := Option.bind_eq_some_iff.mp h
  obtain ⟨ds, e2, h⟩ := Option.bind_eq_some_iff.mp h
  obtain ⟨ρ2, e3, h⟩ := Option.map_eq_some_iff.mp h
  cases h
  refine (ps_par hc hN hi hj hij hx hy ha.pa hw hs).run pins s σ H _ I ⟨F, ρ, as, ρ1, R, e1, fun vs H1 _ ⟨F1, x1, R1, av⟩ => ?_⟩
  have dv := av.asD e2
  match ds, dv, e3 with
  | [], _, e3 => cases e3
  | [_], _, e3 => cases e3
  | _ :: _ :: _ :: _, _, e3 => cases e3
  | [d1, d2], .cons (v := v) h1 (.cons (v := w) h2 .nil), e3 =>
    cases e3
    exact ⟨v, w, rfl, rfl, F1, x1, (R1.store h1 hA).store h2 hA2⟩
theorem ss_put {i : Nat} {x : Str} {p tp pos : Pos} {b e : Expr} {ib ie : IE} (he : SE X A G cs e ie) (hb : SE X A G cs b ib) (hN : X.N[i]? = some x := by rfl) (hvi : Vis X.env.scope x := by first | exact Or.inl rfl | exact Or.inr (Or.inl rfl) | exact Or.inr (Or.inr rfl))
    (hd : (x == ("__debug__" : Str)) = false := by decide) (hcd : (x == ("__classdict__" : Str)) = false := by decide)
    (ha : ∀ v, assign (.Subscript (.Name x p) b tp) X.env v = (do
      let ov ← holding [v] (eval (.Name x p) X.env)
      let iv ← holding [v, ov] (eval b X.env)
      standAt tp
      holding [v, ov, iv] (setItem ov iv v)
      release [v, ov, iv] []) := by intro _; rfl)
    (hs : swapsWithSole [.Subscript (.Name x p) b tp] e pos.line X.env = pure false := by rfl) (hw : swappedStores [.Subscript (.Name x p) b tp] e X.env = pure none := by rfl)
    (h1 : (assignEach [.Subscript (.Name x p) b tp] X.env).map (·.2) = [assign (.Subscript (.Name x p) b tp) X.env] := by rfl) : SS X A G cs (.Assign [.Subscript (.Name x p) b tp] e pos) (.put i ib ie) := by
  refine ⟨fun pins s σ H F ρ out ρ' I R h => ?_⟩
  unfold evS at h
  obtain ⟨⟨o1, ρ1⟩, e1, h⟩ := Option.bind_eq_some_iff.mp h
  obtain ⟨o0, e0, h⟩ := Option.bind_eq_some_iff.mp h
  obtain ⟨⟨o2, ρ2⟩, e2, h⟩ := Option.bind_eq_some_iff.mp h
  obtain ⟨k, e3, h⟩ := Option.bind_eq_some_iff.mp h
  split at h
  · rename_i xs e4
    obtain ⟨j, e5, h⟩ := Option.map_eq_some_iff.mp h
    cases h
    refine (ps_asg he.pe (pg_sub (pe_var hN hvi hd hcd) hb.pe set_list ha) hs hw h1).run pins s σ H _ I ⟨F, ρ, o1, ρ1, R, e1, fun v H1 _ pp => ?_⟩
    obtain ⟨F1, x1, R1, d1⟩ := pp.toD
    obtain ⟨v0, h0, _⟩ := R1.pk e0
    refine ⟨v0, h0, F1, ρ1, o2, ρ2, R1, e2, fun v2 H2 _ p2 => ?_⟩
    obtain ⟨F2, x2, R2, d2⟩ := p2.toD
    rw [intOf_some e3] at d2
    cases d2
    obtain ⟨a, vs, h0', h1', dv⟩ := slot_own R2 e4
    rw [h0] at h0'
    cases h0'
    exact ⟨a, vs, k, j, rfl, rfl, h1', by rw [dv.len]; exact e5, rfl, F2, x1.trans x2, R2.write e4 h0 h1' (dv.set (d1.mono x2.le) j)⟩
  · cases h
theorem ss_app {i : Nat} {y : Str} {b : Expr} {ib : IE} {p apos cpos pos : Pos} (hb : SE X A G cs b ib) (hN : X.N[i]? = some y := by rfl) (hvi : Vis X.env.scope y := by first | exact Or.inl rfl | exact Or.inr (Or.inl rfl) | exact Or.inr (Or.inr rfl)) (hd : (y == ("__debug__" : Str)) = false := by decide)
    (hcd : (y == ("__classdict__" : Str)) = false := by decide) (hbase : attributeBase (.Name y p) "append" X.env (eval (.Name y p) X.env) = eval (.Name y p) X.env := by rfl)
    (hfew : ((backTo cpos (starEach [b] X.env)).all (fun x => !x.1) && (backToKw cpos (keywordEach [] X.env)).all (fun x => x.1.isSome) && decide ([b].length + ([] : List Keyword).length + (if ([] : List Keyword).isEmpty then 0 else 1) < 30)) = true := by rfl)
    (hline : (apos.endLine == cpos.line) = true := by rfl) (hs : starEach [b] X.env = (false, eval b X.env) :: starEach [] X.env := by rfl) (hplain : (backTo cpos (starEach [] X.env)).any (·.1) = false := by rfl)
    (hsw : swapsWith (.Call (.Attribute (.Name y p) "append" apos) [b] [] cpos) none pos.line X.env = pure false := by rfl) : SS X A G cs (.Expr (.Call (.Attribute (.Name y p) "append" apos) [b] [] cpos) pos) (.app i ib) := by
  refine ⟨fun pins s σ H F ρ out ρ' I R e => ?_⟩
  unfold evS at e
  obtain ⟨xs0, e0, e⟩ := Option.bind_eq_some_iff.mp e
  obtain ⟨⟨o1, ρ1⟩, e1, e⟩ := Option.bind_eq_some_iff.mp e
  split at e
  · rename_i xs e3
    split at e
    · rename_i hk
      cases e
      obtain ⟨a, vs0, h0, h1, _⟩ := slot_own R (ownE_some e0)
      refine (ps_expr (pe_bm PySem.F.plainAttrs_list PySem.F.slot_list_append PySem.F.type_list_append mt_append (pe_var hN hvi hd hcd) (pa_cons hb.pe pa_nil hs) hbase hfew hline hs hplain) hsw).run pins s σ H _ I ⟨_, h0, .inl ⟨rfl, _, SqL.of h1⟩, F, ρ, o1, ρ1, R, e1, fun v H1 _ pp => ?_⟩
      obtain ⟨F1, x1, R1, d1⟩ := pp.toD
      obtain ⟨a', vs, h0', h1', dv⟩ := slot_own R1 e3
      rw [h0] at h0'
      cases h0'
      exact ⟨a, vs, v, rfl, rfl, h1', by rw [dv.len, ← ll_eq]; exact hk, rfl, F1, x1, R1.write e3 h0 h1' (dv.app (.one d1))⟩
    · cases e
  · cases e
theorem ss_ext {i : Nat} {y : Str} {b : Expr} {ib : IE} {p apos cpos pos : Pos} (hb : SE X A G cs b ib) (hN : X.N[i]? = some y := by rfl) (hvi : Vis X.env.scope y := by first | exact Or.inl rfl | exact Or.inr (Or.inl rfl) | exact Or.inr (Or.inr rfl)) (hd : (y == ("__debug__" : Str)) = false := by decide)
    (hcd : (y == ("__classdict__" : Str)) = false := by decide) (hbase : attributeBase (.Name y p) "extend" X.env (eval (.Name y p) X.env) = eval (.Name y p) X.env := by rfl)
    (hfew : ((backTo cpos (starEach [b] X.env)).all (fun x => !x.1) && (backToKw cpos (keywordEach [] X.env)).all (fun x => x.1.isSome) && decide ([b].length + ([] : List Keyword).length + (if ([] : List Keyword).isEmpty then 0 else 1) < 30)) = true := by rfl)
    (hline : (apos.endLine == cpos.line) = true := by rfl) (hs : starEach [b] X.env = (false, eval b X.env) :: starEach [] X.env := by rfl) (hplain : (backTo cpos (starEach [] X.env)).any (·.1) = false := by rfl)
    (hsw : swapsWith (.Call (.Attribute (.Name y p) "extend" apos) [b] [] cpos) none pos.line X.env = pure false := by rfl) : SS X A G cs (.Expr (.Call (.Attribute (.Name y p) "extend" apos) [b] [] cpos) pos) (.ext i ib) := by
  refine ⟨fun pins s σ H F ρ out ρ' I R e => ?_⟩
  unfold evS at e
  obtain ⟨xs0, e0, e⟩ := Option.bind_eq_some_iff.mp e
  obtain ⟨⟨o1, ρ1⟩, e1, e⟩ := Option.bind_eq_some_iff.mp e
  obtain ⟨ys, eL, e⟩ := Option.bind_eq_some_iff.mp e
  split at e
  · rename_i xs e3
    split at e
    · rename_i hk
      cases e
      obtain ⟨a, vs0, h0, h1, _⟩ := slot_own R (ownE_some e0)
      refine (ps_expr (pe_bm PySem.F.plainAttrs_list PySem.F.slot_list_extend PySem.F.type_list_extend mt_extend (pe_var hN hvi hd hcd) (pa_cons hb.pe pa_nil hs) hbase hfew hline hs hplain) hsw).run pins s σ H _ I ⟨_, h0, .inl ⟨rfl, _, SqL.of h1⟩, F, ρ, o1, ρ1, R, e1, fun v H1 _ pp => ?_⟩
      obtain ⟨F1, x1, R1, d1⟩ := pp.toD
      obtain ⟨a', vs, h0', h1', dv⟩ := slot_own R1 e3
      rw [h0] at h0'
      cases h0'
      rw [listOf_some eL] at d1
      obtain ⟨b, ws, rfl, hb, dw⟩ := dn_list d1
      exact ⟨a, b, vs, ws, rfl, rfl, h1', R1.sub _ _ hb, by rw [dv.len, dw.len, ← ll_eq]; exact hk, rfl, F1, x1, R1.write e3 h0 h1' (dv.app dw)⟩
    · cases e
  · cases e
theorem ss_ex {e : Expr} {ie : IE} {pos : Pos} (he : SE X A G cs e ie) (hs : swapsWith e none pos.line X.env = pure false := by rfl) : SS X A G cs (.Expr e pos) (.ex ie) := by
  refine ⟨fun pins s σ H F ρ out ρ' I R h => ?_⟩
  unfold evS at h
  obtain ⟨⟨o1, ρ1⟩, e1, h⟩ := Option.map_eq_some_iff.mp h
  cases h
  refine (ps_expr he.pe hs).run pins s σ H _ I ⟨F, ρ, o1, ρ1, R, e1, fun v H1 _ p => ?_⟩
  obtain ⟨F1, x1, R1, d1⟩ := p.toD
  exact ⟨rfl, F1, x1, R1⟩
theorem ss_aug {i : Nat} {x : Str} {e : Expr} {ie : IE} {op : Operator} {bop : BOp} {f : Int → Int → Int} {pos pos' : Pos} (hop : (bop = .add ∧ op = .Add) ∨ (bop = .sub ∧ op = .Sub)) (hN : X.N.Nodup) (hA : ∀ p ∈ A, p.1 ≠ i) (he : SE X A G cs e ie) (hi : X.N[i]? = some x := by rfl) (hx : Loc X.env.scope x := by first | exact Or.inl rfl | exact Or.inr rfl)
    (hf : X.fn x = true ∨ X.env.scope.names.lookup x = some .local := by first | exact .inl rfl | exact .inr rfl | assumption) : SS X A G cs (.AugAssign (.Name x pos') op e pos) (.aug i bop ie) := by
  refine ⟨fun pins s σ H F ρ out ρ' I R h => ?_⟩
  unfold evS at h
  obtain ⟨o0, e0, h⟩ := Option.bind_eq_some_iff.mp h
  obtain ⟨k0, e4, h⟩ := Option.bind_eq_some_iff.mp h
  obtain ⟨⟨o1, ρ1⟩, e1, h⟩ := Option.bind_eq_some_iff.mp h
  obtain ⟨k1, e2, h⟩ := Option.bind_eq_some_iff.mp h
  obtain ⟨k2, e3, h⟩ := Option.map_eq_some_iff.mp h
  cases h
  obtain ⟨v0, h0, pk⟩ := R.pk e0
  rw [intOf_some e4] at pk
  cases pk.imm (fun xs q => by cases q)
  rcases hop with ⟨rfl, rfl⟩ | ⟨rfl, rfl⟩
  · cases e3
    refine (ps_aug hN hi hx he.pe ip_add hf).run pins s σ H _ I ⟨_, h0, F, ρ, o1, ρ1, R, e1, fun v H1 _ p => ?_⟩
    obtain ⟨F1, x1, R1, d1⟩ := p.toD
    rw [intOf_some e2] at d1
    cases d1
    exact ⟨_, _, rfl, rfl, rfl, F1, x1, R1.store (.int _) hA⟩
  · cases e3
    refine (ps_aug hN hi hx he.pe ip_sub hf).run pins s σ H _ I ⟨_, h0, F, ρ, o1, ρ1, R, e1, fun v H1 _ p => ?_⟩
    obtain ⟨F1, x1, R1, d1⟩ := p.toD
    rw [intOf_some e2] at d1
    cases d1
    exact ⟨_, _, rfl, rfl, rfl, F1, x1, R1.store (.int _) hA⟩
theorem ss_ret {e : Expr} {ie : IE} {pos : Pos} (he : SE X A G cs e ie) : SS X A G cs (.Return (some e) pos) (.ret ie) := by
  refine ⟨fun pins s σ H F ρ out ρ' I R h => ?_⟩
  unfold evS at h
  obtain ⟨⟨o1, ρ1⟩, e1, h⟩ := Option.map_eq_some_iff.mp h
  cases h
  exact (ps_ret he.pe).run pins s σ H _ I ⟨F, ρ, o1, _, R, e1, fun v H1 _ ⟨F1, x1, R1, d1⟩ => ⟨o1, σ, F1, rfl, x1, R1, d1⟩⟩
theorem ss_retv {i : Nat} {y : Str} {p pos : Pos} (hN : X.N[i]? = some y := by rfl) (hvi : Vis X.env.scope y := by first | exact Or.inl rfl | exact Or.inr (Or.inl rfl) | exact Or.inr (Or.inr rfl)) (hd : (y == ("__debug__" : Str)) = false := by decide)
    (hcd : (y == ("__classdict__" : Str)) = false := by decide) : SS X A G cs (.Return (some (.Name y p)) pos) (.retv i) := by
  refine ⟨fun pins s σ H F ρ out ρ' I R h => ?_⟩
  unfold evS at h
  obtain ⟨o1, e1, h⟩ := Option.map_eq_some_iff.mp h
  cases h
  cases o1 with
  | imm d =>
    obtain ⟨v, h0, dn⟩ := R.imm i d e1
    exact (ps_ret (pe_var hN hvi hd hcd)).run pins s σ H _ I ⟨v, h0, _, σ, F, rfl, .refl, R.clr i, dn⟩
  | own xs =>
    obtain ⟨a, h0, o⟩ := R.own i xs e1
    refine (ps_ret (pe_var hN hvi hd hcd)).run pins s σ H _ I ⟨_, h0, _, σ, F, rfl, .refl, R.clr i, a, rfl, o, fun j ys h e => ?_⟩
    rw [getE_clr] at h
    split at h
    · cases h
    · rename_i z
      exact z (R.dis i j xs ys a e1 h h0 e)
theorem ss_retN {pos : Pos} : SS X A G cs (.Return none pos) .retN := ⟨fun pins s σ H F ρ out ρ' I R h => by
  cases h
  exact ps_retN.run pins s σ H _ I ⟨_, σ, F, rfl, .refl, R, .non⟩⟩
theorem ss_pass {pos : Pos} : SS X A G cs (.Pass pos) .pass := ⟨fun pins s σ H F ρ out ρ' I R h => by
  cases h
  exact ps_pass.run pins s σ H _ I ⟨rfl, F, .refl, R⟩⟩
theorem ss_brk {pos : Pos} : SS X A G cs (.Break pos) .brk := ⟨fun pins s σ H F ρ out ρ' I R h => by
  cases h
  exact ps_break.run pins s σ H _ I ⟨rfl, F, .refl, R⟩⟩
theorem ss_cont {pos : Pos} : SS X A G cs (.Continue pos) .cont := ⟨fun pins s σ H F ρ out ρ' I R h => by
  cases h
  exact ps_continue.run pins s σ H _ I ⟨rfl, F, .refl, R⟩⟩
theorem ss_if {c : Expr} {a b : List Stmt} {it : IT} {ia ib : ISs} {pos : Pos} (hc : ST X A G cs c it) (ha : SB' X A G cs a ia) (hb : SB' X A G cs b ib) : SS X A G cs (.If c a b pos) (.ite it ia ib) := by
  refine ⟨fun pins s σ H F ρ out ρ' I R e => ?_⟩
  unfold evS at e
  obtain ⟨⟨k, ρ1⟩, e1, e⟩ := Option.bind_eq_some_iff.mp e
  refine wpAny_If (thn (hc.run pins s σ H F ρ k ρ1 I R e1) fun d s1 ⟨H1, I1, q, F1, x1, R1⟩ => ?_)
  subst q
  cases d with
  | true => exact thn (ha.run pins s1 σ H1 F1 ρ1 out ρ' I1 R1 e) fun _ _ q => sp_le q (endS_ext x1)
  | false => exact thn (hb.run pins s1 σ H1 F1 ρ1 out ρ' I1 R1 e) fun _ _ q => sp_le q (endS_ext x1)
/-! ### loops -/
theorem ss_for {iter : Expr} {body : List Stmt} {is : List Nat} {ig : IG} {ib : ISs} {pos : Pos} (hp : PassesOwn (model X.prog X.w) X.A X.env X.xe) (hc : X.calm = true) (hi : SG X A G cs tg iter ig) (hg : SP' X A tg is) (hb : SB' X A G cs body ib)
    (hs : ∀ x, foldedSetIterable iter X.env x = pure x := by intro _; rfl) : SS X A G cs (.For tg iter body [] pos) (.loop is ig ib) := by
  refine ⟨fun pins s σ H F ρ out ρ' I R e => ?_⟩
  unfold evS at e
  obtain ⟨⟨ds, ρ1⟩, eG, e⟩ := Option.bind_eq_some_iff.mp e
  refine (ps_for hp hc hi hg.pg hb.pss hs).run pins s σ H _ I ⟨F, ρ, ds, ρ1, R, eG, fun J F1 H1 x1 R1 feed _ => ?_⟩
  refine ⟨fun i m σ H => m + i = ds.length ∧ ∃ F2 ρ2, Ext G F1 F2 ∧ Rel X.K A G F2 H σ ρ2 ∧ goFor is (evSs cs ib) (ds.drop i) ρ2 = some (out, ρ'), ⟨ds.length, by simp, F1, ρ1, .refl, R1, by simpa using e⟩, ?_⟩
  rintro i m σ2 H2 ⟨hm, F2, ρ2, x2, R2, eR⟩
  have hsub : Same F1 H2 := x2.le.trans R2.sub
  by_cases hi : i < ds.length
  · refine .inr ⟨feed.go i H2 (.of hsub) hi, _, fun σ' H' hW => ⟨m - 1, by omega, hW⟩, fun x H3 y => ?_⟩
    have yl := (feed.yld i H2 x H3 (.of hsub) y _ (List.getElem?_eq_getElem hi)).mono x2.le
    rw [List.drop_eq_getElem_cons hi] at eR
    unfold goFor at eR
    obtain ⟨ρ3, eB, eR⟩ := Option.bind_eq_some_iff.mp eR
    obtain ⟨⟨o1, ρ4⟩, eS, eR⟩ := Option.bind_eq_some_iff.mp eR
    obtain ⟨F3, x3, R3, dn3, s3⟩ := yl_ok R2 yl
    refine ⟨G, F3, ρ2, _, ρ3, R3, dn3, eB, fun σ3 R4 _ _ => ⟨F3, ρ3, o1, ρ4, R4, eS, fun σ' H' ⟨z, F5, x5, R5⟩ => ?_, fun v H' ⟨o, σ', F5, z, x5, R5, d5⟩ => ?_, fun σ' H' ⟨z, F5, x5, R5⟩ => ?_, fun σ' H' ⟨z, F5, x5, R5⟩ => ?_⟩⟩
    · cases z
      exact ⟨by omega, F5, ρ4, x2.trans (x3.trans x5), R5, eR⟩
    · cases z
      cases eR
      exact ⟨o, σ', F5, rfl, x1.trans (x2.trans (x3.trans x5)), R5, d5⟩
    · cases z
      cases eR
      exact ⟨rfl, F5, x1.trans (x2.trans (x3.trans x5)), R5⟩
    · cases z
      exact ⟨by omega, F5, ρ4, x2.trans (x3.trans x5), R5, eR⟩
  · rw [List.drop_eq_nil_of_le (by omega)] at eR
    cases eR
    exact .inl ⟨feed.stop i H2 (.of hsub) (by omega), rfl, F2, x1.trans x2, R2⟩
def whlF (test : Env → Option (Bool × Env)) (body : Env → Option (Out × Env)) : Nat → Env → Option (Out × Env)
  | 0, _ => none
  | n + 1, ρ => (test ρ).bind fun p => if p.1 = true then (body p.2).bind fun q => match q.1 with
      | .next => whlF test body n q.2
      | .cont => whlF test body n q.2
      | .brk => some (.next, q.2)
      | .ret v => some (.ret v, q.2)
    else some (.next, p.2)
theorem whl_fuel {test : Env → Option (Bool × Env)} {body : Env → Option (Out × Env)} {ρ : Env} {r : Out × Env} (h : whl test body ρ = some r) : ∃ n, whlF test body n ρ = some r := by
  refine whl.partial_correctness test body (fun ρ r => ∃ n, whlF test body n ρ = some r) (fun f ih ρ r h => ?_) ρ r h
  obtain ⟨⟨b, ρ1⟩, e1, h⟩ := Option.bind_eq_some_iff.mp h
  cases b with
  | false =>
    cases h
    exact ⟨1, by unfold whlF; rw [e1]; rfl⟩
  | true =>
    obtain ⟨⟨q, ρ2⟩, e2, h⟩ := Option.bind_eq_some_iff.mp h
    cases q with
    | next =>
      obtain ⟨n, hn⟩ := ih ρ2 r h
      exact ⟨n + 1, by unfold whlF; rw [e1]; show (body ρ1).bind _ = _; rw [e2]; exact hn⟩
    | cont =>
      obtain ⟨n, hn⟩ := ih ρ2 r h
      exact ⟨n + 1, by unfold whlF; rw [e1]; show (body ρ1).bind _ = _; rw [e2]; exact hn⟩
    | brk =>
      cases h
      exact ⟨1, by unfold whlF; rw [e1]; show (body ρ1).bind _ = _; rw [e2]; rfl⟩
    | ret v =>
      cases h
      exact ⟨1, by unfold whlF; rw [e1]; show (body ρ1).bind _ = _; rw [e2]; rfl⟩
theorem ss_whl {c : Expr} {body : List Stmt} {it : IT} {ib : ISs} {pos : Pos} (hp : PassesOwn (model X.prog X.w) X.A X.env X.xe) (hc : ST X A G cs c it) (hb : SB' X A G cs body ib) : SS X A G cs (.While c body [] pos) (.whl it ib) := by
  refine ⟨fun pins s σ H F ρ out ρ' I R e => ?_⟩
  unfold evS at e
  obtain ⟨n, e⟩ := whl_fuel e
  refine (ps_while hp hc.pt hb.pss).run pins s σ H _ I ⟨fun m σ H => ∃ F2 ρ2, Ext G F F2 ∧ Rel X.K A G F2 H σ ρ2 ∧ whlF (evT cs it) (evSs cs ib) m ρ2 = some (out, ρ'), ⟨n, F, ρ, .refl, R, e⟩, ?_⟩
  rintro m σ2 H2 ⟨F2, ρ2, x2, R2, eR⟩
  cases m with
  | zero => cases eR
  | succ m =>
    unfold whlF at eR
    obtain ⟨⟨b, ρ3⟩, e1, eR⟩ := Option.bind_eq_some_iff.mp eR
    refine ⟨F2, ρ2, b, ρ3, R2, e1, fun F3 H3 x3 R3 => ?_⟩
    cases b with
    | false =>
      cases eR
      exact L2.iteF ⟨rfl, F3, x2.trans x3, R3⟩
    | true =>
      obtain ⟨⟨o1, ρ4⟩, e2, eR⟩ := Option.bind_eq_some_iff.mp (show (evSs cs ib ρ3).bind _ = _ from eR)
      refine L2.iteT ⟨_, fun σ' H' hW => ⟨m, Nat.lt_succ_self m, hW⟩, F3, ρ3, o1, ρ4, R3, e2, fun σ' H' ⟨z, F5, x5, R5⟩ => ?_, fun v H' ⟨o, σ', F5, z, x5, R5, d5⟩ => ?_, fun σ' H' ⟨z, F5, x5, R5⟩ => ?_, fun σ' H' ⟨z, F5, x5, R5⟩ => ?_⟩
      · cases z
        exact ⟨F5, ρ4, x2.trans (x3.trans x5), R5, eR⟩
      · cases z
        cases eR
        exact ⟨o, σ', F5, rfl, x2.trans (x3.trans x5), R5, d5⟩
      · cases z
        cases eR
        exact ⟨rfl, F5, x2.trans (x3.trans x5), R5⟩
      · cases z
        exact ⟨F5, ρ4, x2.trans (x3.trans x5), R5, eR⟩
end
end Ev
set_option Elab.async false
set_option linter.all false
set_option maxRecDepth 100000
/-! Ev12: a def keeps its promise. -/
namespace Ev
open PySem PySem.Spec PyProof.Rows L2 RT RZ
theorem outs_some : ∀ {is : List Nat} {ρ : Env} {l : List (List PyData)}, outs is ρ = some l → ∀ i ∈ is, ∃ xs, getE ρ i = some (.own xs)
  | [], _, _, _ => fun i h => by cases h
  | i :: is, ρ, l, h => by
    unfold outs at h
    split at h
    · rename_i xs w
      obtain ⟨l', e, rfl⟩ := Option.map_eq_some_iff.mp h
      intro j hj
      rcases List.mem_cons.mp hj with rfl | hj
      · exact ⟨xs, w⟩
      · exact outs_some e j hj
    · cases h
section
variable {K : Frag} {A : List (Nat × Addr)} {G F H : Hp} {σ : L2.St} {ρ : Env}
theorem refs_own : ∀ {vs : List V} {os : List Ov} {k : Nat}, ArgO K F H vs os → (∀ i v, vs[i]? = some v → σ[k + i]? = some (some v)) → RefsAt σ (ownsF k os) (ows vs os)
  | _, _, _, .nil, _ => .nil
  | v :: vs, _ :: os, k, .imm (d := d) _ q, h => by
    have e : ows (v :: vs) (.imm d :: os) = ows vs os := by cases v <;> rfl
    rw [e]
    exact refs_own q fun i w hi => by
      have := h (i + 1) w (by simpa using hi)
      rw [show k + 1 + i = k + (i + 1) by omega]
      exact this
  | _ :: vs, _ :: os, k, .own (a := a) _ _ _ q, h => by
    refine .cons (by simpa using h 0 (.ref a) rfl) (refs_own q fun i w hi => ?_)
    have := h (i + 1) w (by simpa using hi)
    rw [show k + 1 + i = k + (i + 1) by omega]
    exact this
theorem refs_inj : ∀ {xs : List Nat} {as : List Addr}, RefsAt σ xs as → as.Nodup → ∀ x ∈ xs, ∀ y ∈ xs, ∀ a, σ[x]? = some (some (.ref a)) → σ[y]? = some (some (.ref a)) → x = y
  | _, _, .nil, _, x, hx, _, _, _, _, _ => by cases hx
  | _, _, .cons (x := z) (a := b) h q, n, x, hx, y, hy, a, e1, e2 => by
    obtain ⟨n1, n2⟩ := List.nodup_cons.mp n
    rcases List.mem_cons.mp hx with rfl | hx
    · rcases List.mem_cons.mp hy with rfl | hy
      · rfl
      · rw [h] at e1
        cases e1
        obtain ⟨a', h1, h2⟩ := (refs_mem q).1 y hy
        rw [e2] at h2; cases h2
        exact absurd h1 n1
    · rcases List.mem_cons.mp hy with ey | hy
      · subst ey
        rw [h] at e2
        cases e2
        obtain ⟨a', h1, h2⟩ := (refs_mem q).1 x (by assumption)
        rw [e1] at h2; cases h2
        exact absurd h1 n1
      · exact refs_inj q n2 x hx y hy a e1 e2
theorem ownsF_mem : ∀ {os : List Ov} {k i : Nat} {xs : List PyData}, os[i]? = some (.own xs) → k + i ∈ ownsF k os
  | [], _, _, _, h => by simp at h
  | .own _ :: os, k, 0, _, _ => by simp [ownsF]
  | .imm _ :: os, k, 0, _, h => by simp at h
  | .own _ :: os, k, i + 1, xs, h => by
    unfold ownsF
    have := ownsF_mem (os := os) (k := k + 1) (i := i) (xs := xs) (by simpa using h)
    rw [show k + 1 + i = k + (i + 1) by omega] at this
    exact List.mem_cons_of_mem _ this
  | .imm _ :: os, k, i + 1, xs, h => by
    unfold ownsF
    have := ownsF_mem (os := os) (k := k + 1) (i := i) (xs := xs) (by simpa using h)
    rw [show k + 1 + i = k + (i + 1) by omega] at this
    exact this
theorem ArgO.len : ∀ {vs : List V} {os : List Ov}, ArgO K F H vs os → vs.length = os.length
  | _, _, .nil => rfl
  | _, _, .imm _ q => by simp [q.len]
  | _, _, .own _ _ _ q => by simp [q.len]
theorem ArgO.get : ∀ {vs : List V} {os : List Ov} {i : Nat} {o : Ov}, ArgO K F H vs os → os[i]? = some o → ∃ v, vs[i]? = some v ∧ match o with
    | .imm d => Dn K F v d
    | .own xs => ∃ a ws, v = .ref a ∧ F a = none ∧ H a = some (.lst ws) ∧ DnA K F ws xs
  | _, _, i, _, .nil, e => by simp at e
  | _, _, 0, _, .imm h _, e => by simp at e; subst e; exact ⟨_, rfl, h⟩
  | _, _, 0, _, .own f h d _, e => by simp at e; subst e; exact ⟨_, rfl, _, _, rfl, f, h, d⟩
  | _, _, i + 1, o, .imm _ q, e => by
    obtain ⟨v, h1, h2⟩ := q.get (i := i) (o := o) (by simpa using e)
    exact ⟨v, by simpa using h1, h2⟩
  | _, _, i + 1, o, .own _ _ _ q, e => by
    obtain ⟨v, h1, h2⟩ := q.get (i := i) (o := o) (by simpa using e)
    exact ⟨v, by simpa using h1, h2⟩
theorem getE_start {d : FD} {os : List Ov} {i : Nat} : getE (start0 d os) i = os[i]? := by
  unfold getE start0
  by_cases h : i < os.length
  · rw [List.getElem?_append_left (by simpa using h), List.getElem?_map]
    cases os[i]? <;> rfl
  · rw [List.getElem?_append_right (by simpa using h), List.getElem?_eq_none (l := os) (by omega), List.getElem?_replicate]
    split <;> rfl
theorem start_get {N : List Str} {vs : List V} {i : Nat} {v : V} (h : vs[i]? = some v) : (L2.start N vs)[i]? = some (some v) := by
  unfold L2.start
  have hl := (List.getElem?_eq_some_iff.mp h).1
  rw [List.getElem?_append_left (by simpa using hl), List.getElem?_map, h]
  rfl
theorem out_ok : ∀ {is : List Nat} {as : List Addr} {l : List (List PyData)}, RefsAt σ is as → Rel K A G F H σ ρ → outs is ρ = some l → OutL K F H as l
  | _, _, _, .nil, _, e => by cases e; exact .nil
  | _, _, _, .cons (x := i) h q, R, e => by
    unfold outs at e
    split at e
    · rename_i xs w
      obtain ⟨l', e1, rfl⟩ := Option.map_eq_some_iff.mp e
      obtain ⟨a, h0, _, f, ws, h1, d⟩ := R.own i xs w
      rw [h] at h0; cases h0
      exact .cons f h1 d (out_ok q R e1)
    · cases e
theorem refs_zip {σ' : L2.St} : ∀ {is : List Nat} {as : List Addr}, RefsAt σ is as → (∀ p ∈ is.zip as, σ'[p.1]? = some (some (.ref p.2))) → RefsAt σ' is as
  | _, _, .nil, _ => .nil
  | x :: _, a :: _, .cons _ q, h => .cons (h (x, a) (by simp)) (refs_zip q fun p hp => h p (by simp [hp]))
end
section
variable {P : Program} {w : World} {K : Frag} {mg : Str → Option Value} {base : Heap}
theorem nA {A : List (Nat × Addr)} {io : List Nat} (h : ∀ p ∈ A, p.1 ∈ io) {i : Nat} (n : i ∉ io) : ∀ p ∈ A, p.1 ≠ i := fun p hp e => n (by rw [← e]; exact h p hp)
theorem nAs {A : List (Nat × Addr)} {io is : List Nat} (h : ∀ p ∈ A, p.1 ∈ io) (n : ∀ i ∈ is, i ∉ io) : ∀ p ∈ A, p.1 ∉ is := fun p hp e => n _ e (h p hp)
theorem fn_step {Φ : Nat → Option FX} {n f' : Nat} {d : FD} {N ps : List Str} {x qual : Str} {params : Arguments} {body : List Stmt} {scope : Scope} {f : Addr} {fd : FuncData} (Fu : FunD K x qual params body scope [] [] f fd) (S : FnScope N ps scope) (hΦ : Φ f' = some (.code d)) (hnp : ps.length = d.np) (hns : N.length = d.ns)
    (hb : ∀ (cdv : Value) (A : Around) (outer : List PySem.Env) (s : Shared) (H : Hp) (E : XK) (G : Hp) (Ap : List (Nat × Addr)), Room n (A.deeper (envOfC qual scope s.heap.objs.size f cdv)) → (∀ p ∈ Ap, p.1 ∈ d.io) →
      SB' (cxOf CX0 P w K mg base N qual scope f cdv A outer s H E).nox Ap G (callN Φ n) body d.body) : FnOk P w K mg base CX0 (n + 1) f fd ps (spF K (callN Φ (n + 1)) f' ps.length) := by
  refine Fu.ok S (fun vs H Q E h => ?_) (fun cdv A outer s H vs Q E hr h => ?_)
  · obtain ⟨_, _, _, _, _, _, _, h, _⟩ := h
    exact h
  · obtain ⟨F, os, o, l, hF, hA, nd, hlen, e, k⟩ := h
    unfold callN at e
    rw [hΦ] at e
    dsimp only at e
    split at e
    · rename_i hc
      obtain ⟨⟨out, ρ'⟩, e1, e2⟩ := Option.bind_eq_some_iff.mp e
      have hvo := hA.len
      have ra0 : RefsAt (L2.start N vs) (owns os) (ows vs os) := refs_own hA fun i v hi => by rw [Nat.zero_add]; exact start_get hi
      let G : Hp := fun b => if b ∈ ows vs os then none else H b
      have hG : ∀ b, b ∉ ows vs os → G b = H b := fun b hb => if_neg hb
      have hGo : ∀ b, b ∈ ows vs os → G b = none := fun b hb => if_pos hb
      -- the relation at the entry
      have R : Rel K ((owns os).zip (ows vs os)) G F H (L2.start N vs) (start0 d os) := by
        refine ⟨fun b x q => ?_, hF, fun i d' q => ?_, fun i xs q => ?_, fun i j xs ys a q1 q2 z1 z2 => ?_, fun p hp => ?_, ?_⟩
        · by_cases hb : b ∈ ows vs os
          · rw [hGo b hb] at q; cases q
          · rw [hG b hb] at q; exact q
        · rw [getE_start] at q
          obtain ⟨v, h1, h2⟩ := hA.get q
          exact ⟨v, start_get h1, h2⟩
        · rw [getE_start] at q
          obtain ⟨v, h1, a, ws, rfl, h2, h3, h4⟩ := hA.get q
          refine ⟨a, start_get h1, hGo a ?_, h2, ws, h3, h4⟩
          obtain ⟨b, hb, hs⟩ := (refs_mem ra0).1 i (by have := ownsF_mem (k := 0) q; rw [Nat.zero_add] at this; exact this)
          rw [start_get h1] at hs
          cases hs
          exact hb
        · rw [getE_start] at q1 q2
          have m1 : i ∈ owns os := by have := ownsF_mem (k := 0) q1; rw [Nat.zero_add] at this; exact this
          have m2 : j ∈ owns os := by have := ownsF_mem (k := 0) q2; rw [Nat.zero_add] at this; exact this
          exact refs_inj ra0 nd i m1 j m2 a z1 z2
        · have : ∀ {xs : List Nat} {as : List Addr}, RefsAt (L2.start N vs) xs as → ∀ p ∈ xs.zip as, (L2.start N vs)[p.1]? = some (some (.ref p.2)) := by
            intro xs as h
            induction h with
            | nil => intro p hp; cases hp
            | cons h1 _ ih =>
              intro p hp
              rw [List.zip_cons_cons] at hp
              rcases List.mem_cons.mp hp with rfl | hp
              · exact h1
              · exact ih p hp
          exact this ra0 p hp
        · unfold start0 L2.start
          simp only [List.length_append, List.length_map, List.length_replicate, hvo, hns]
      have hio : ∀ p ∈ (owns os).zip (ows vs os), p.1 ∈ d.io := fun p hp => by
        rw [← hc.2]
        exact (List.of_mem_zip hp).1
      refine ⟨_, ((hb cdv A outer s H E G _ hr hio).pss).nox, F, start0 d os, out, ρ', R, e1, ?_⟩
      -- behind the body
      have fin : ∀ (σ' : L2.St) (F' H' : Hp) (v : V) (o' : Ov) (l' : List (List PyData)), Ext G F F' → Rel K ((owns os).zip (ows vs os)) G F' H' σ' ρ' → DnO K G F' H' σ' ρ' v o' → outs d.io ρ' = some l' → Ret K F H F' H' (ows vs os) o' l' v := fun σ' F' H' v o' l' x R' dn eo => by
        have ra : RefsAt σ' (owns os) (ows vs os) := refs_zip ra0 R'.pin
        have ho : OutL K F' H' (ows vs os) l' := out_ok ra R' (by rw [hc.2]; exact eo)
        refine ⟨fun b y hy hb => R'.frm b y (by rw [hG b hb]; exact hy), x.le, fun b hb hh => ?_, R'.sub, ho, ?_⟩
        · by_cases hm : b ∈ ows vs os
          · obtain ⟨i, hi, hs⟩ := (refs_mem ra).2 b hm
            obtain ⟨xs, we⟩ := outs_some eo i (by rw [← hc.2]; exact hi)
            obtain ⟨a, h0, _, f1, _⟩ := R'.own i xs we
            rw [hs] at h0; cases h0
            exact f1
          · exact x.new b hb (by rw [hG b hm]; exact hh)
        · cases o' with
          | imm d' => exact dn
          | own xs =>
            obtain ⟨a, rfl, ⟨g, f1, ws, h1, dw⟩, na⟩ := dn
            refine ⟨a, ws, rfl, ?_, f1, h1, dw⟩
            by_cases hm : a ∈ ows vs os
            · obtain ⟨i, hi, hs⟩ := (refs_mem ra).2 a hm
              obtain ⟨xs', we⟩ := outs_some eo i (by rw [← hc.2]; exact hi)
              exact absurd hs (na i xs' we)
            · rw [hG a hm] at g; exact g
      refine ⟨fun σ' H' ⟨z, F', x, R'⟩ => ?_, fun v H' ⟨o', σ', F', z, x, R', dn⟩ => ?_, fun σ' H' ⟨z, F', x, R'⟩ => ?_, fun σ' H' ⟨z, F', x, R'⟩ => ?_⟩
      · cases z
        obtain ⟨l', eo, e3⟩ := Option.map_eq_some_iff.mp e2
        cases e3
        exact k .non H' F' (fin σ' F' H' .non (.imm .none) _ x R' .non eo)
      · cases z
        obtain ⟨l', eo, e3⟩ := Option.map_eq_some_iff.mp e2
        cases e3
        exact k v H' F' (fin σ' F' H' v _ _ x R' dn eo)
      · cases z; cases e2
      · cases z; cases e2
    · cases e
/-- nothing is promised of no room -/
theorem fn_zero {Φ : Nat → Option FX} {f' k : Nat} {f : Addr} {fd : FuncData} {ps : List Str} {CX : CXT} : FnOk P w K mg base CX k f fd ps (spF K (callN Φ 0) f' ps.length) where
  len := fun vs H Q E ⟨_, _, _, _, _, _, _, h, _⟩ => h
  run := fun A outer s H args us vs Q E _ _ _ _ ⟨_, _, _, _, _, _, _, _, e, _⟩ => by cases e
end
end Ev
set_option Elab.async false
set_option linter.all false
set_option maxRecDepth 100000
/-! EvD: the empty dict: written, copied. -/
namespace Ev
open PySem PySem.Spec PyProof.Rows L2 RT RZ
/-! dict(x), x a list of pairs -/
def pairsD : List PyData → Option (List (Key × PyData))
  | [] => some []
  | .tuple [.int i, d] :: r => (pairsD r).map ((.inl i, d) :: ·)
  | .tuple [.str x, d] :: r => (pairsD r).map ((.inr x, d) :: ·)
  | _ => none
def putD (kds : List (Key × PyData)) (k : Key) (d : PyData) : List (Key × PyData) := if (kds.any fun kv => decide (kv.1 = k)) = true then kds.map (fun kv => if kv.1 = k then (kv.1, d) else kv) else kds ++ [(k, d)]
def mergeD (kds more : List (Key × PyData)) : List (Key × PyData) := more.foldl (fun acc kv => putD acc kv.1 kv.2) kds
def dictD : PyData → Option Ov
  | .list xs => (pairsD xs).map fun kds => .imm (.dict ((mergeD [] kds).map fun p => (keyD p.1, p.2)))
  | _ => none
theorem pairs_dn {K : Frag} {F : Hp} : ∀ {ds : List PyData} {vs : List V} {kds : List (Key × PyData)}, DnA K F vs ds → pairsD ds = some kds → ∃ (ps : List Addr) (kvs : List (Key × V)), vs = ps.map V.ref ∧ Paired (fun p kv => SqT K F p [kV kv.1, kv.2]) ps kvs ∧ DnK K F kvs kds
  | [], _, _, .nil, e => by
    cases e
    exact ⟨[], [], rfl, .nil, .nil⟩
  | .tuple [.int i, d] :: r, _, kds, .cons h t, e => by
    unfold pairsD at e
    obtain ⟨kr, e1, rfl⟩ := Option.map_eq_some_iff.mp e
    obtain ⟨ps, kvs, rfl, q1, q2⟩ := pairs_dn t e1
    cases h with
    | tup hs da =>
      cases da with
      | cons h1 da =>
        cases da with
        | cons h2 da =>
          cases da
          cases h1
          exact ⟨_ :: ps, (.inl i, _) :: kvs, rfl, .cons hs q1, .cons h2 q2⟩
  | .tuple [.str x, d] :: r, _, kds, .cons h t, e => by
    unfold pairsD at e
    obtain ⟨kr, e1, rfl⟩ := Option.map_eq_some_iff.mp e
    obtain ⟨ps, kvs, rfl, q1, q2⟩ := pairs_dn t e1
    cases h with
    | tup hs da =>
      cases da with
      | cons h1 da =>
        cases da with
        | cons h2 da =>
          cases da
          cases h1
          exact ⟨_ :: ps, (.inr x, _) :: kvs, rfl, .cons hs q1, .cons h2 q2⟩
theorem paired_mono {α β : Type} {P Q : α → β → Prop} : ∀ {a : List α} {b : List β}, Paired P a b → (∀ x y, P x y → Q x y) → Paired Q a b
  | _, _, .nil, _ => .nil
  | _, _, .cons h t, f => .cons (f _ _ h) (paired_mono t f)
theorem any_dn {K : Frag} {F : Hp} {k : Key} : ∀ {kvs : List (Key × V)} {kds : List (Key × PyData)}, DnK K F kvs kds → (kvs.any fun kv => decide (kv.1 = k)) = (kds.any fun kv => decide (kv.1 = k))
  | _, _, .nil => rfl
  | _, _, .cons _ t => by rw [List.any_cons, List.any_cons, any_dn t]
theorem app_dn {K : Frag} {F : Hp} {k : Key} {v : V} {d : PyData} (h : Dn K F v d) : ∀ {kvs : List (Key × V)} {kds : List (Key × PyData)}, DnK K F kvs kds → DnK K F (kvs ++ [(k, v)]) (kds ++ [(k, d)])
  | _, _, .nil => .cons h .nil
  | _, _, .cons h' t => .cons h' (app_dn h t)
theorem map_dn {K : Frag} {F : Hp} {k : Key} {v : V} {d : PyData} (h : Dn K F v d) : ∀ {kvs : List (Key × V)} {kds : List (Key × PyData)}, DnK K F kvs kds → DnK K F (kvs.map fun kv => if kv.1 = k then (kv.1, v) else kv) (kds.map fun kv => if kv.1 = k then (kv.1, d) else kv)
  | _, _, .nil => .nil
  | _, _, .cons (k := k') h' t => by
    rw [List.map_cons, List.map_cons]
    by_cases z : k' = k
    · rw [if_pos z, if_pos z]
      exact .cons h (map_dn h t)
    · rw [if_neg z, if_neg z]
      exact .cons h' (map_dn h t)
theorem merge_dn {K : Frag} {F : Hp} : ∀ {more : List (Key × V)} {md : List (Key × PyData)} {kvs : List (Key × V)} {kds : List (Key × PyData)}, DnK K F more md → DnK K F kvs kds → DnK K F (mergeK kvs more) (mergeD kds md)
  | _, _, _, _, .nil, q => q
  | (k, v) :: more, (_, d) :: md, kvs, kds, .cons h t, q => by
    show DnK K F (mergeK (putK kvs k v) more) (mergeD (putD kds k d) md)
    refine merge_dn t ?_
    unfold putK putD
    rw [any_dn q]
    split
    · exact map_dn h q
    · exact app_dn h q
theorem Rel.newD {K : Frag} {p : Addr} {kvs : List (Key × V)} {kds : List (Key × PyData)} {A : List (Nat × Addr)} {G F H : Hp} {σ : L2.St} {ρ : Env} (R : Rel K A G F H σ ρ) (hp : H p = none) (dk : DnK K F kvs kds) : Post K A G F σ ρ (.imm (.dict (kds.map fun p => (keyD p.1, p.2)))) (.ref p) (upd H p (.dK kvs)) := by
  have hF : F p = none := R.sub.free hp
  have hG : G p = none := R.frm.free hp
  have e : Same F (upd F p (.dK kvs)) := same_upd hF
  have R1 := R.grow (same_upd (o := .dK kvs) hp)
  refine ⟨upd F p (.dK kvs), ⟨e, fun b hb gb => ?_⟩, R1.wide e (fun b x q => ?_) fun i xs a hi hs => ?_, .dct upd_same (dk.mono e) rfl⟩
  · have : b ≠ p := fun z => gb (by rw [z]; exact hG)
    rw [upd_ne this]; exact hb
  · by_cases z : b = p
    · subst z; rw [upd_same] at q ⊢; exact q
    · rw [upd_ne z] at q ⊢
      exact R.sub _ _ q
  · obtain ⟨a', h1, _, f, vs, h2, _⟩ := R.own i xs hi
    rw [hs] at h1; cases h1
    have : a ≠ p := fun z => by rw [z, hp] at h2; cases h2
    rw [upd_ne this]; exact f
section
variable {X : Cx} {A : List (Nat × Addr)} {G : Hp} {cs : CS} {pins : List (Addr × Obj)} {s : Shared} {σ : L2.St} {H F : Hp} {ρ ρ' : Env} {o : Ov}
theorem Rel.newD0 {K : Frag} {p : Addr} (R : Rel K A G F H σ ρ) (hp : H p = none) : Post K A G F σ ρ (.imm (.dict [])) (.ref p) (upd H p (.dK [])) := by
  have hF : F p = none := R.sub.free hp
  have hG : G p = none := R.frm.free hp
  have e : Same F (upd F p (.dK [])) := same_upd hF
  have R1 := R.grow (same_upd (o := .dK []) hp)
  refine ⟨upd F p (.dK []), ⟨e, fun b hb gb => ?_⟩, R1.wide e (fun b x q => ?_) fun i xs a hi hs => ?_, .dct upd_same .nil rfl⟩
  · have : b ≠ p := fun z => gb (by rw [z]; exact hG)
    rw [upd_ne this]; exact hb
  · by_cases z : b = p
    · subst z; rw [upd_same] at q ⊢; exact q
    · rw [upd_ne z] at q ⊢
      exact R.sub _ _ q
  · obtain ⟨a', h1, _, f, vs, h2, _⟩ := R.own i xs hi
    rw [hs] at h1; cases h1
    have : a ≠ p := fun z => by rw [z, hp] at h2; cases h2
    rw [upd_ne this]; exact f
/-- {} -/
def dct0 (ρ : Env) : Option (Ov × Env) := some (.imm (.dict []), ρ)
theorem se_dct0 {pos : Pos} : SE X A G cs (.Dict [] [] pos) (.prim dct0) := by
  refine ⟨fun pins s σ H F ρ o ρ' I R h => ?_⟩
  unfold ev dct0 at h
  cases h
  exact pe_dnewK.run pins s σ H _ I fun p hp => R.newD0 hp
/-- return dict([.. for k in x]), x an empty dict -/
def retD0 (i : Nat) (ρ : Env) : Option (Out × Env) := match getE ρ i with
  | some (.imm (.dict [])) => some (.ret (.imm (.dict [])), ρ)
  | _ => none
theorem ss_retD0 {i : Nat} {y : Str} {elt tg : Expr} {scope : Scope} {own : List (Str × Nat)} {p q lpos cpos pos : Pos} (hc : X.calm = true) (hN : X.N.Nodup) (ok : BlkOk X.N X.env.scope scope own) (hm : X.mg "dict" = none) (hy : X.N[i]? = some y := by rfl)
    (hvi : Vis X.env.scope y := by first | exact Or.inl rfl | exact Or.inr (Or.inl rfl) | exact Or.inr (Or.inr rfl)) (hd : (y == ("__debug__" : Str)) = false := by decide) (hcd : (y == ("__classdict__" : Str)) = false := by decide) (hg : Gl X "dict" := by rfl)
    (hs : ∀ x, foldedSetIterable (.Name y q) X.env x = pure x := by intro _; rfl) (he : starEach [.ListComp elt [⟨tg, .Name y q, [], 0⟩] scope lpos] X.env = (false, eval (.ListComp elt [⟨tg, .Name y q, [], 0⟩] scope lpos) X.env) :: starEach [] X.env := by rfl) :
    SS X A G cs (.Return (some (.Call (.Name "dict" p) [.ListComp elt [⟨tg, .Name y q, [], 0⟩] scope lpos] [] cpos)) pos) (.prim (retD0 i)) := by
  refine ⟨fun pins s σ H F ρ out ρ' I R h => ?_⟩
  unfold evS retD0 at h
  split at h
  · rename_i hgi
    cases h
    obtain ⟨v, h0, dv⟩ := R.imm i _ hgi
    cases dv with
    | dct h1 h2 h3 =>
      rename_i a kvs ds
      have hds : ds = [] := by
        cases ds with
        | nil => rfl
        | cons d ds => cases h3
      subst hds
      cases h2
      have hH := R.sub _ _ h1
      have never : ∀ {Y : Cx} {e : Expr}, PE Y e (fun _ _ _ => False) := ⟨fun _ _ _ _ _ _ h => h.elim⟩
      have neverG : ∀ {Y : Cx} {t : Expr}, PG Y t (fun _ _ _ _ => False) := ⟨by intros; contradiction⟩
      refine (ps_ret (pe_lock (pe_callTy (call_dictP hc) hg hm (PyProof.Rows.Boot.«dict») (pa_cons (pe_lc (wi := iKeys (tVar i)) (g := fun _ _ _ _ => False) (te := fun _ _ _ => False) hc hN (pi_keys (pe_var hy hvi hd hcd)) ok (fun _ _ _ _ _ => neverG) (fun _ _ _ _ _ => pts_nil) (fun _ _ _ _ _ => never) hs) pa_nil he) (by decide) (by decide) he))).run pins s σ H _ I ?_
      have ne1 : ∀ {b : Addr} {u : HO}, upd H a u b = none → b ≠ a := fun {b u} e z => by rw [z, upd_same] at e; cases e
      refine ⟨a, .dK [], hH, trivial, fun od => ?_⟩
      refine ⟨.ref a, h0, a, od, rfl, .inl ⟨[], upd_same, fun D hD => ⟨fun j m H' => j = 0 ∧ H' = upd (upd H a (.frz od (.dK []))) D (.lst []), ⟨0, rfl, rfl⟩, ?_⟩⟩⟩
      rintro j m H' ⟨rfl, rfl⟩
      have nD := ne1 hD
      have hDn : H D = none := by rw [upd_ne nD] at hD; exact hD
      refine .inl ⟨⟨by rw [upd_ne (Ne.symm nD)]; exact upd_same, Nat.le_refl _⟩, D, [], [], rfl, SqL.of upd_same, .nil, fun p hp => ?_⟩
      have pD : p ≠ D := fun z => by rw [z, upd_same] at hp; cases hp
      have hp2 : upd H a (.frz od (.dK [])) p = none := by rw [upd_ne pD] at hp; exact hp
      have pa' := ne1 hp2
      have hpn : H p = none := by rw [upd_ne pa'] at hp2; exact hp2
      refine ⟨by rw [upd_ne (Ne.symm pa'), upd_ne (Ne.symm nD)]; exact upd_same, ?_⟩
      have sm : Same (upd H p (.dK [])) (upd (upd (upd (upd H a (.frz od (.dK []))) D (.lst [])) p (.dK (mergeK [] []))) a (.dK [])) := fun b x e => by
        by_cases z : b = a
        · subst z
          rw [upd_ne (Ne.symm pa')] at e
          rw [hH] at e; cases e
          exact upd_same
        · rw [upd_ne z]
          by_cases z2 : b = p
          · subst z2
            rw [upd_same] at e; cases e
            exact upd_same
          · rw [upd_ne z2] at e ⊢
            have z3 : b ≠ D := fun y => by rw [y, hDn] at e; cases e
            rw [upd_ne z3, upd_ne z]
            exact e
      obtain ⟨F', x1, R1, d1⟩ := R.newD0 hpn
      exact ⟨.imm (.dict []), σ, F', rfl, x1, R1.grow sm, d1⟩
  · cases h
/-- dict(e) -/
theorem se_dictc {e : Expr} {ie : IE} {p cpos : Pos} (hc : X.calm = true) (hm : X.mg "dict" = none) (he : SE X A G cs e ie) (hg : Gl X "dict" := by rfl) (hs : starEach [e] X.env = (false, eval e X.env) :: starEach [] X.env := by rfl) : SE X A G cs (.Call (.Name "dict" p) [e] [] cpos) (.map1 dictD ie) := by
  refine ⟨fun pins s σ H F ρ o ρ' I R h => ?_⟩
  unfold ev at h
  obtain ⟨⟨o1, ρ1⟩, e1, h⟩ := Option.bind_eq_some_iff.mp h
  obtain ⟨o2, e2, h⟩ := Option.map_eq_some_iff.mp h
  cases h
  refine wpAny_Call_Name_kw (ld_blt I hg hm (PyProof.Rows.Boot.«dict») ?_ (by decide) (by decide))
  refine PyProof.Rows.callWith_type1 ?_ hs (by rfl)
  rw [hs]
  show wpAny _ _ (spliced ((false, eval e X.env) :: backTo cpos (starEach [] X.env))) _ _ s
  refine Calls.spliced_cons (he.on I R e1 fun u s1 v H1 F1 I1 r x1 R1 d1 => Calls.spliced_nil ?_)
  unfold dictD at e2
  split at e2
  · rename_i xs hx
    obtain ⟨kds, e3, rfl⟩ := Option.map_eq_some_iff.mp e2
    rw [show o1.d = .list xs from hx] at d1
    cases d1 with
    | lst hF da =>
      obtain ⟨ps, kvs, rfl, q1, q2⟩ := pairs_dn da e3
      refine call_dictP hc pins s1 σ H1 [.ref _] [u] _ I1 (.cons r .nil) ⟨_, ps, kvs, rfl, SqL.of (R1.sub _ _ hF), ?_, fun p hp => (R1.newD hp (merge_dn q2 .nil)).ext x1⟩
      exact paired_mono q1 fun p kv h => sqT_same R1.sub h
  · cases e2
end
end Ev
set_option Elab.async false
set_option linter.all false
set_option maxRecDepth 100000
set_option maxHeartbeats 0
/-! printed by gen.py: the defs of the row that the evaluator reads, by their places in the row -/
namespace LW
open PySem PySem.Spec PyProof.Rows L2 RT RZ Ev
def top (i : Nat) : Stmt := PySem.Challenge.pw_seriesmill_k00_errors_made.main.body.getD i (.Pass ⟨0, 0, 0, 0⟩)
abbrev n__law_draw : List Str := ["spring", "many", "digit", "mixed"]
abbrev p__law_draw : List Str := ["spring", "many"]
theorem sc__law_draw : FnScope n__law_draw p__law_draw (defScope (top 55)) := ⟨rfl, rfl, rfl, by decide +kernel, rfl, by decide +kernel, by decide +kernel⟩
def i__law_draw : ISs := .cons (.ite (.cmp .gt (.idxv 0 (.lit (.int 0))) (.lit (.int 0))) (.cons (.set 2 (.bin .mod (.fn .int (.cons (.idxv 0 (.lit (.int 0))) (.nil))) (.var 1))) (.cons (.put 0 (.lit (.int 0)) (.bin .fdiv (.idxv 0 (.lit (.int 0))) (.var 1))) (.cons (.retv 2) (.nil)))) (.nil)) (.cons (.put 0 (.lit (.int 2)) (.bin .add (.idxv 0 (.lit (.int 2))) (.lit (.int 1)))) (.cons (.set 3 (.bin .mod (.bin .pow (.fn .int (.cons (.bin .add (.bin .add (.idxv 0 (.lit (.int 1))) (.bin .mul (.lit (.int 6364137)) (.idxv 0 (.lit (.int 2))))) (.lit (.int 1442695))) (.nil))) (.lit (.int 3))) (.lit (.int 2147483647)))) (.cons (.ret (.bin .mod (.bin .fdiv (.bin .mod (.bin .pow (.fn .int (.cons (.bin .add (.bin .mul (.var 3) (.lit (.int 48271))) (.bin .mul (.lit (.int 11)) (.idxv 0 (.lit (.int 2))))) (.nil))) (.lit (.int 3))) (.lit (.int 2147483629))) (.lit (.int 8))) (.var 1))) (.nil))))
abbrev d__law_draw : FD := ⟨2, 4, [0], i__law_draw⟩
abbrev n__law_pick : List Str := ["spring", "some"]
abbrev p__law_pick : List Str := ["spring", "some"]
theorem sc__law_pick : FnScope n__law_pick p__law_pick (defScope (top 56)) := ⟨rfl, rfl, rfl, by decide +kernel, rfl, by decide +kernel, by decide +kernel⟩
def i__law_pick : ISs := .cons (.ret (.idxv 1 (.call 27 (.ref 0 (.cons (.fnv .len 1) (.nil)))))) (.nil)
abbrev d__law_pick : FD := ⟨2, 2, [0], i__law_pick⟩
abbrev n__law_same : List Str := ["found", "due", "one", "other", "is_alike"]
abbrev p__law_same : List Str := ["found", "due"]
theorem sc__law_same : FnScope n__law_same p__law_same (defScope (top 59)) := ⟨rfl, rfl, rfl, by decide +kernel, rfl, by decide +kernel, by decide +kernel⟩
def i__law_same : ISs := .cons (.ite (.val (.isiv 1 ["dict"])) (.cons (.nope) (.nil)) (.nil)) (.cons (.ite (.val (.isiv 1 ["list", "tuple"])) (.cons (.ite (.or (.cmp .ne (.isiv 0 ["list"]) (.isiv 1 ["list"])) (.cmp .ne (.isiv 0 ["tuple"]) (.isiv 1 ["tuple"]))) (.cons (.ret (.lit (.bool false))) (.nil)) (.nil)) (.cons (.ret (.bt (.and (.cmp .eq (.fnv .len 0) (.fnv .len 1)) (.bv (.fn .all (.cons (.lc [2, 3] (.zip (.var 0) (.var 1)) (.tt) (.call 30 (.cons (.var 2) (.cons (.var 3) (.nil))))) (.nil))))))) (.nil))) (.nil)) (.cons (.set 4 (.bt (.and (.cmp .eq (.isiv 0 ["bool"]) (.isiv 1 ["bool"])) (.cmp .eq (.isiv 0 ["int"]) (.isiv 1 ["int"]))))) (.cons (.ite (.or (.val (.isiv 0 ["dict", "list", "tuple"])) (.or (.not (.valv 4)) (.cmp .ne (.isiv 0 ["str"]) (.isiv 1 ["str"])))) (.cons (.ret (.lit (.bool false))) (.nil)) (.nil)) (.cons (.ret (.ife (.cmp .isN (.var 1) (.lit .none)) (.bt (.cmp .isN (.var 0) (.lit .none))) (.bt (.cmp .eq (.var 0) (.var 1))))) (.nil)))))
abbrev d__law_same : FD := ⟨2, 5, [], i__law_same⟩
abbrev n__law_very : List Str := ["kept", "thing", "found"]
abbrev p__law_very : List Str := ["kept", "thing"]
theorem sc__law_very : FnScope n__law_very p__law_very (defScope (top 58)) := ⟨rfl, rfl, rfl, by decide +kernel, rfl, by decide +kernel, by decide +kernel⟩
def i__law_very : ISs := .cons (.ite (.val (.isiv 1 ["list"])) (.cons (.app 1 (.lit (.str " late "))) (.cons (.set 2 (.bt (.and (.bv (.isiv 0 ["list"])) (.and (.cmp .eq (.fnv .len 0) (.fnv .len 1)) (.cmp .eq (.idxv 0 (.neg (.lit (.int 1)))) (.lit (.str " late "))))))) (.cons (.ex (.pop 1)) (.cons (.retv 2) (.nil))))) (.nil)) (.cons (.ite (.val (.isiv 1 ["dict"])) (.cons (.put 1 (.lit (.str " late ")) (.lit (.int 7))) (.cons (.nope) (.cons (.ex (.popa 1 (.lit (.str " late ")))) (.cons (.retv 2) (.nil))))) (.nil)) (.cons (.ite (.or (.val (.isiv 1 ["tuple", "str", "bool", "int"])) (.cmp .isN (.var 1) (.lit .none))) (.cons (.ret (.call 30 (.cons (.var 0) (.cons (.var 1) (.nil))))) (.nil)) (.nil)) (.cons (.ret (.bt (.cmp .eq (.var 0) (.var 1)))) (.nil))))
abbrev d__law_very : FD := ⟨2, 3, [], i__law_very⟩
abbrev n__law_e_drawn : List Str := ["spring", "way", "k"]
abbrev p__law_e_drawn : List Str := ["spring"]
theorem sc__law_e_drawn : FnScope n__law_e_drawn p__law_e_drawn (defScope (top 65)) := ⟨rfl, rfl, rfl, by decide +kernel, rfl, by decide +kernel, by decide +kernel⟩
def i__law_e_drawn : ISs := .cons (.set 1 (.call 27 (.ref 0 (.cons (.lit (.int 9)) (.nil))))) (.cons (.ite (.cmp .eq (.var 1) (.lit (.int 0))) (.cons (.ret (.bin .sub (.call 27 (.ref 0 (.cons (.bin .pow (.lit (.int 10)) (.lit (.int 30))) (.nil)))) (.bin .pow (.lit (.int 10)) (.lit (.int 29))))) (.nil)) (.nil)) (.cons (.ite (.cmp .eq (.var 1) (.lit (.int 1))) (.cons (.ret (.call 28 (.ref 0 (.cons (.lst (.cons (.lit (.str "")) (.cons (.lit (.str "a")) (.cons (.lit (.str "late")) (.cons (.lit (.str "two words")) (.cons (.lit (.str "x9")) (.nil))))))) (.nil))))) (.nil)) (.nil)) (.cons (.ite (.cmp .eq (.var 1) (.lit (.int 2))) (.cons (.ret (.call 28 (.ref 0 (.cons (.lst (.cons (.lit .none) (.cons (.lit (.bool true)) (.cons (.lit (.bool false)) (.cons (.lit (.int 0)) (.cons (.lit (.int 1)) (.nil))))))) (.nil))))) (.nil)) (.nil)) (.cons (.ite (.cmp .isin (.var 1) (.lst (.cons (.lit (.int 3)) (.cons (.lit (.int 4)) (.nil))))) (.cons (.ret (.lc [2] (.rng1 (.call 27 (.ref 0 (.cons (.lit (.int 4)) (.nil))))) (.tt) (.call 27 (.ref 0 (.cons (.lit (.int 9)) (.nil)))))) (.nil)) (.nil)) (.cons (.ite (.cmp .eq (.var 1) (.lit (.int 5))) (.cons (.ret (.fn .tuple (.cons (.lc [2] (.rng1 (.call 27 (.ref 0 (.cons (.lit (.int 4)) (.nil))))) (.tt) (.call 27 (.ref 0 (.cons (.lit (.int 9)) (.nil))))) (.nil)))) (.nil)) (.nil)) (.cons (.ret (.map1 dictD (.lc [2] (.rng1 (.call 27 (.ref 0 (.cons (.lit (.int 4)) (.nil))))) (.tt) (.tup (.cons (.call 27 (.ref 0 (.cons (.lit (.int 9)) (.nil)))) (.cons (.lit (.str "v")) (.nil))))))) (.nil)))))))
abbrev d__law_e_drawn : FD := ⟨1, 3, [0], i__law_e_drawn⟩
def Φ : Nat → Option FX
  | 27 => some (.code d__law_draw)
  | 28 => some (.code d__law_pick)
  | 30 => some (.code d__law_same)
  | 45 => some (.code d__law_very)
  | 46 => some (.code d__law_e_drawn)
  | _ => none
theorem h__law_draw : Φ 27 = some (.code d__law_draw) := rfl
theorem h__law_pick : Φ 28 = some (.code d__law_pick) := rfl
theorem h__law_same : Φ 30 = some (.code d__law_same) := rfl
theorem h__law_very : Φ 45 = some (.code d__law_very) := rfl
theorem h__law_e_drawn : Φ 46 = some (.code d__law_e_drawn) := rfl
/-- what the head tells of the text -/
structure Txt (K : Frag) (mg : Str → Option Value) (a : Nat → Addr) (fd : Nat → FuncData) : Prop where
  d__law_draw : FunD K "_law_draw" "_law_draw" (defArgs (top 55)) (defBody (top 55)) (defScope (top 55)) [] [] (a 27) (fd 27)
  m__law_draw : mg "_law_draw" = some (.ref (a 27))
  d__law_pick : FunD K "_law_pick" "_law_pick" (defArgs (top 56)) (defBody (top 56)) (defScope (top 56)) [] [] (a 28) (fd 28)
  m__law_pick : mg "_law_pick" = some (.ref (a 28))
  d__law_same : FunD K "_law_same" "_law_same" (defArgs (top 59)) (defBody (top 59)) (defScope (top 59)) [] [] (a 30) (fd 30)
  m__law_same : mg "_law_same" = some (.ref (a 30))
  d__law_very : FunD K "_law_very" "_law_very" (defArgs (top 58)) (defBody (top 58)) (defScope (top 58)) [] [] (a 45) (fd 45)
  m__law_very : mg "_law_very" = some (.ref (a 45))
  d__law_e_drawn : FunD K "_law_e_drawn" "_law_e_drawn" (defArgs (top 65)) (defBody (top 65)) (defScope (top 65)) [] [] (a 46) (fd 46)
  m__law_e_drawn : mg "_law_e_drawn" = some (.ref (a 46))
  f_all : mg "all" = none
  f_bool : mg "bool" = none
  f_dict : mg "dict" = none
  f_int : mg "int" = none
  f_isinstance : mg "isinstance" = none
  f_len : mg "len" = none
  f_list : mg "list" = none
  f_range : mg "range" = none
  f_str : mg "str" = none
  f_tuple : mg "tuple" = none
  f_zip : mg "zip" = none
section
variable {P : Program} {w : World} {K : Frag} {mg : Str → Option Value} {base : Heap} {a : Nat → Addr} {fd : Nat → FuncData}
theorem Txt.b__law_draw (T : Txt K mg a fd) : Binds K (fd 27) p__law_draw [] := T.d__law_draw.bindsN fun _ _ _ _ _ _ us hl => match us, hl with | [_, _], _ => rfl
theorem Txt.b__law_pick (T : Txt K mg a fd) : Binds K (fd 28) p__law_pick [] := T.d__law_pick.bindsN fun _ _ _ _ _ _ us hl => match us, hl with | [_, _], _ => rfl
theorem Txt.b__law_same (T : Txt K mg a fd) : Binds K (fd 30) p__law_same [] := T.d__law_same.bindsN fun _ _ _ _ _ _ us hl => match us, hl with | [_, _], _ => rfl
theorem Txt.b__law_very (T : Txt K mg a fd) : Binds K (fd 45) p__law_very [] := T.d__law_very.bindsN fun _ _ _ _ _ _ us hl => match us, hl with | [_, _], _ => rfl
theorem Txt.b__law_e_drawn (T : Txt K mg a fd) : Binds K (fd 46) p__law_e_drawn [] := T.d__law_e_drawn.bindsN fun _ _ _ _ _ _ us hl => match us, hl with | [_], _ => rfl
/-- all promises, n calls deep -/
structure Good (P : Program) (w : World) (K : Frag) (mg : Str → Option Value) (base : Heap) (a : Nat → Addr) (fd : Nat → FuncData) (n : Nat) : Prop where
  g__law_draw : FnOk P w K mg base CX0 n (a 27) (fd 27) p__law_draw (spF K (callN Φ n) 27 2)
  g__law_pick : FnOk P w K mg base CX0 n (a 28) (fd 28) p__law_pick (spF K (callN Φ n) 28 2)
  g__law_same : FnOk P w K mg base CX0 n (a 30) (fd 30) p__law_same (spF K (callN Φ n) 30 2)
  g__law_very : FnOk P w K mg base CX0 n (a 45) (fd 45) p__law_very (spF K (callN Φ n) 45 2)
  g__law_e_drawn : FnOk P w K mg base CX0 n (a 46) (fd 46) p__law_e_drawn (spF K (callN Φ n) 46 1)
theorem st__law_draw {n : Nat} (g : Good P w K mg base a fd n) (T : Txt K mg a fd) : FnOk P w K mg base CX0 (n + 1) (a 27) (fd 27) p__law_draw (spF K (callN Φ (n + 1)) 27 2) := by
  refine fn_step (d := d__law_draw) T.d__law_draw sc__law_draw rfl rfl rfl (fun cdv A outer s H E G Ap hr hio => ?_)
  exact (sb_cons (ss_if (st_cmp cm_gt (se_idxv (i := 0) se_int) se_int (nomark _)) (sb_cons (ss_set (i := 2) sc__law_draw.nd (nA hio (by decide)) (se_bin br_mod (se_fnT bl_int rfl T.f_int PyProof.Rows.boot_int (sa_cons (se_idxv (i := 0) se_int) sa_nil)) (se_var (i := 1)))) (sb_cons (ss_put (i := 0) (se_bin br_fdiv (se_idxv (i := 0) se_int) (se_var (i := 1))) se_int) (sb_cons (ss_retv (i := 2)) sb_nil))) sb_nil) (sb_cons (ss_put (i := 0) (se_bin br_add (se_idxv (i := 0) se_int) se_int) se_int) (sb_cons (ss_set (i := 3) sc__law_draw.nd (nA hio (by decide)) (se_bin br_mod (se_bin br_pow (se_fnT bl_int rfl T.f_int PyProof.Rows.boot_int (sa_cons (se_bin br_add (se_bin br_add (se_idxv (i := 0) se_int) (se_bin br_mul se_int (se_idxv (i := 0) se_int))) se_int) sa_nil)) se_int) se_int)) (sb_cons (ss_ret (se_bin br_mod (se_bin br_fdiv (se_bin br_mod (se_bin br_pow (se_fnT bl_int rfl T.f_int PyProof.Rows.boot_int (sa_cons (se_bin br_add (se_bin br_mul (se_var (i := 3)) se_int) (se_bin br_mul se_int (se_idxv (i := 0) se_int))) sa_nil)) se_int) se_int) se_int) (se_var (i := 1)))) sb_nil))))
theorem st__law_pick {n : Nat} (g : Good P w K mg base a fd n) (T : Txt K mg a fd) : FnOk P w K mg base CX0 (n + 1) (a 28) (fd 28) p__law_pick (spF K (callN Φ (n + 1)) 28 2) := by
  refine fn_step (d := d__law_pick) T.d__law_pick sc__law_pick rfl rfl rfl (fun cdv A outer s H E G Ap hr hio => ?_)
  exact (sb_cons (ss_ret (se_idxv (i := 1) (se_call g.g__law_draw hr rfl T.m__law_draw T.d__law_draw.kp T.b__law_draw pass0 (sa_ref (i := 0) (sa_cons (se_fnvB (i := 1) bl_len rfl T.f_len PySem.boot_len) sa_nil))))) sb_nil)
theorem st__law_same {n : Nat} (g : Good P w K mg base a fd n) (T : Txt K mg a fd) : FnOk P w K mg base CX0 (n + 1) (a 30) (fd 30) p__law_same (spF K (callN Φ (n + 1)) 30 2) := by
  refine fn_step (d := d__law_same) T.d__law_same sc__law_same rfl rfl rfl (fun cdv A outer s H E G Ap hr hio => ?_)
  exact (sb_cons (ss_if (st_val (se_isiv (i := 1) (pa_ty rfl T.f_dict (by decide +kernel) pa_ty0) T.f_isinstance)) (sb_cons ss_nope sb_nil) sb_nil) (sb_cons (ss_if (st_val (se_isivT (i := 1) (pa_ty rfl T.f_list PyProof.Rows.boot_list (pa_ty rfl T.f_tuple PyProof.Rows.boot_tuple pa_ty0)) T.f_isinstance)) (sb_cons (ss_if (SW.st (sw_or (st_cmp (cm_ne hr.units) (se_isiv (i := 0) (pa_ty rfl T.f_list PyProof.Rows.boot_list pa_ty0) T.f_isinstance) (se_isiv (i := 1) (pa_ty rfl T.f_list PyProof.Rows.boot_list pa_ty0) T.f_isinstance) (nomark _)) (sw_or1 (st_cmp (cm_ne hr.units) (se_isiv (i := 0) (pa_ty rfl T.f_tuple PyProof.Rows.boot_tuple pa_ty0) T.f_isinstance) (se_isiv (i := 1) (pa_ty rfl T.f_tuple PyProof.Rows.boot_tuple pa_ty0) T.f_isinstance) (nomark _))))) (sb_cons (ss_ret se_bl) sb_nil) sb_nil) (sb_cons (ss_ret (se_bt (sb_and (sb_cmp (cm_eq hr.units) (se_fnvB (i := 0) bl_len rfl T.f_len PySem.boot_len) (se_fnvB (i := 1) bl_len rfl T.f_len PySem.boot_len) (nomark _)) (sb_one (sb_bv (se_fnB (bl_all rfl) rfl T.f_all PyProof.Rows.boot_all (sa_cons (se_lc (own := [("one", 2), ("other", 3)]) rfl sc__law_same.nd (sg_zip (se_var (i := 0)) (se_var (i := 1)) T.f_zip) (blkOk_by (own := [("one", 2), ("other", 3)]) (show blkC n__law_same (defScope (top 59)) _ [("one", 2), ("other", 3)] = true from by decide +kernel)) (nAs hio (by decide)) (fun _ _ _ _ _ => (sp_tup rfl (sps_cons (i := 2) sc__law_same.nd (nA hio (by decide)) (sps_cons (i := 3) sc__law_same.nd (nA hio (by decide)) sps_nil)))) (fun _ _ _ _ _ _ => sts_nil) (fun _ _ _ _ _ _ => (se_call g.g__law_same hr rfl T.m__law_same T.d__law_same.kp T.b__law_same pass0 (sa_cons (se_var (i := 2)) (sa_cons (se_var (i := 3)) sa_nil))))) sa_nil))))))) sb_nil)) sb_nil) (sb_cons (ss_set (i := 4) sc__law_same.nd (nA hio (by decide)) (se_bt (sb_and (sb_cmp (cm_eq hr.units) (se_isiv (i := 0) (pa_ty rfl T.f_bool (by decide +kernel) pa_ty0) T.f_isinstance) (se_isiv (i := 1) (pa_ty rfl T.f_bool (by decide +kernel) pa_ty0) T.f_isinstance) (nomark _)) (sb_one (sb_cmp (cm_eq hr.units) (se_isiv (i := 0) (pa_ty rfl T.f_int PyProof.Rows.boot_int pa_ty0) T.f_isinstance) (se_isiv (i := 1) (pa_ty rfl T.f_int PyProof.Rows.boot_int pa_ty0) T.f_isinstance) (nomark _)))))) (sb_cons (ss_if (SW.st (sw_or (st_val (se_isivT (i := 0) (pa_ty rfl T.f_dict (by decide +kernel) (pa_ty rfl T.f_list PyProof.Rows.boot_list (pa_ty rfl T.f_tuple PyProof.Rows.boot_tuple pa_ty0))) T.f_isinstance)) (sw_or (st_not (st_valv (i := 4))) (sw_or1 (st_cmp (cm_ne hr.units) (se_isiv (i := 0) (pa_ty rfl T.f_str (by decide +kernel) pa_ty0) T.f_isinstance) (se_isiv (i := 1) (pa_ty rfl T.f_str (by decide +kernel) pa_ty0) T.f_isinstance) (nomark _)))))) (sb_cons (ss_ret se_bl) sb_nil) sb_nil) (sb_cons (ss_ret (se_ife (st_cmp cm_is (se_var (i := 1)) se_non (nomark _)) (se_bt (sb_cmp cm_is (se_var (i := 0)) se_non (nomark _))) (se_bt (sb_cmp (cm_eq hr.units) (se_var (i := 0)) (se_var (i := 1)) (nomark _))))) sb_nil)))))
theorem st__law_very {n : Nat} (g : Good P w K mg base a fd n) (T : Txt K mg a fd) : FnOk P w K mg base CX0 (n + 1) (a 45) (fd 45) p__law_very (spF K (callN Φ (n + 1)) 45 2) := by
  refine fn_step (d := d__law_very) T.d__law_very sc__law_very rfl rfl rfl (fun cdv A outer s H E G Ap hr hio => ?_)
  exact (sb_cons (ss_if (st_val (se_isiv (i := 1) (pa_ty rfl T.f_list PyProof.Rows.boot_list pa_ty0) T.f_isinstance)) (sb_cons (ss_app (i := 1) se_str) (sb_cons (ss_set (i := 2) sc__law_very.nd (nA hio (by decide)) (se_bt (sb_and (sb_bv (se_isiv (i := 0) (pa_ty rfl T.f_list PyProof.Rows.boot_list pa_ty0) T.f_isinstance)) (sb_and (sb_cmp (cm_eq hr.units) (se_fnvB (i := 0) bl_len rfl T.f_len PySem.boot_len) (se_fnvB (i := 1) bl_len rfl T.f_len PySem.boot_len) (nomark _)) (sb_one (sb_cmp (cm_eq hr.units) (se_idxv (i := 0) (se_neg se_int)) se_str (nomark _))))))) (sb_cons (ss_ex (se_pop (i := 1))) (sb_cons (ss_retv (i := 2)) sb_nil)))) sb_nil) (sb_cons (ss_if (st_val (se_isiv (i := 1) (pa_ty rfl T.f_dict (by decide +kernel) pa_ty0) T.f_isinstance)) (sb_cons (ss_put (i := 1) se_int se_str) (sb_cons ss_nope (sb_cons (ss_ex (se_popa (i := 1) se_str)) (sb_cons (ss_retv (i := 2)) sb_nil)))) sb_nil) (sb_cons (ss_if (SW.st (sw_or (st_val (se_isivT (i := 1) (pa_ty rfl T.f_tuple PyProof.Rows.boot_tuple (pa_ty rfl T.f_str (by decide +kernel) (pa_ty rfl T.f_bool (by decide +kernel) (pa_ty rfl T.f_int PyProof.Rows.boot_int pa_ty0)))) T.f_isinstance)) (sw_or1 (st_cmp cm_is (se_var (i := 1)) se_non (nomark _))))) (sb_cons (ss_ret (se_call g.g__law_same hr rfl T.m__law_same T.d__law_same.kp T.b__law_same pass0 (sa_cons (se_var (i := 0)) (sa_cons (se_var (i := 1)) sa_nil)))) sb_nil) sb_nil) (sb_cons (ss_ret (se_bt (sb_cmp (cm_eq hr.units) (se_var (i := 0)) (se_var (i := 1)) (nomark _)))) sb_nil))))
theorem st__law_e_drawn {n : Nat} (g : Good P w K mg base a fd n) (T : Txt K mg a fd) : FnOk P w K mg base CX0 (n + 1) (a 46) (fd 46) p__law_e_drawn (spF K (callN Φ (n + 1)) 46 1) := by
  refine fn_step (d := d__law_e_drawn) T.d__law_e_drawn sc__law_e_drawn rfl rfl rfl (fun cdv A outer s H E G Ap hr hio => ?_)
  exact (sb_cons (ss_set (i := 1) sc__law_e_drawn.nd (nA hio (by decide)) (se_call g.g__law_draw hr rfl T.m__law_draw T.d__law_draw.kp T.b__law_draw pass0 (sa_ref (i := 0) (sa_cons se_int sa_nil)))) (sb_cons (ss_if (st_cmp (cm_eq hr.units) (se_var (i := 1)) se_int (nomark _)) (sb_cons (ss_ret (se_bin br_sub (se_call g.g__law_draw hr rfl T.m__law_draw T.d__law_draw.kp T.b__law_draw pass0 (sa_ref (i := 0) (sa_cons (se_bin br_pow se_int se_int) sa_nil))) (se_bin br_pow se_int se_int))) sb_nil) sb_nil) (sb_cons (ss_if (st_cmp (cm_eq hr.units) (se_var (i := 1)) se_int (nomark _)) (sb_cons (ss_ret (se_call g.g__law_pick hr rfl T.m__law_pick T.d__law_pick.kp T.b__law_pick pass0 (sa_ref (i := 0) (sa_cons (se_lst (sa_cons se_str (sa_cons se_str (sa_cons se_str (sa_cons se_str (sa_cons se_str sa_nil)))))) sa_nil)))) sb_nil) sb_nil) (sb_cons (ss_if (st_cmp (cm_eq hr.units) (se_var (i := 1)) se_int (nomark _)) (sb_cons (ss_ret (se_call g.g__law_pick hr rfl T.m__law_pick T.d__law_pick.kp T.b__law_pick pass0 (sa_ref (i := 0) (sa_cons (se_lst (sa_cons se_non (sa_cons se_bl (sa_cons se_bl (sa_cons se_int (sa_cons se_int sa_nil)))))) sa_nil)))) sb_nil) sb_nil) (sb_cons (ss_if (st_cmp cm_in (se_var (i := 1)) (se_lst (sa_cons se_int (sa_cons se_int sa_nil))) (by rfl)) (sb_cons (ss_ret (se_lc (own := [("k", 2)]) rfl sc__law_e_drawn.nd (sg_rng1 (se_call g.g__law_draw hr rfl T.m__law_draw T.d__law_draw.kp T.b__law_draw pass0 (sa_ref (i := 0) (sa_cons se_int sa_nil))) T.f_range) (blkOk_by (own := [("k", 2)]) (show blkC n__law_e_drawn (defScope (top 65)) _ [("k", 2)] = true from by decide +kernel)) (nAs hio (by decide)) (fun _ _ _ _ _ => (sp_name (i := 2) sc__law_e_drawn.nd (nA hio (by decide)))) (fun _ _ _ _ _ _ => sts_nil) (fun _ _ _ _ _ _ => (se_call g.g__law_draw hr rfl T.m__law_draw T.d__law_draw.kp T.b__law_draw pass0 (sa_ref (i := 0) (sa_cons se_int sa_nil)))))) sb_nil) sb_nil) (sb_cons (ss_if (st_cmp (cm_eq hr.units) (se_var (i := 1)) se_int (nomark _)) (sb_cons (ss_ret (se_fnT bl_tuple rfl T.f_tuple PyProof.Rows.boot_tuple (sa_cons (se_lc (own := [("k", 2)]) rfl sc__law_e_drawn.nd (sg_rng1 (se_call g.g__law_draw hr rfl T.m__law_draw T.d__law_draw.kp T.b__law_draw pass0 (sa_ref (i := 0) (sa_cons se_int sa_nil))) T.f_range) (blkOk_by (own := [("k", 2)]) (show blkC n__law_e_drawn (defScope (top 65)) _ [("k", 2)] = true from by decide +kernel)) (nAs hio (by decide)) (fun _ _ _ _ _ => (sp_name (i := 2) sc__law_e_drawn.nd (nA hio (by decide)))) (fun _ _ _ _ _ _ => sts_nil) (fun _ _ _ _ _ _ => (se_call g.g__law_draw hr rfl T.m__law_draw T.d__law_draw.kp T.b__law_draw pass0 (sa_ref (i := 0) (sa_cons se_int sa_nil))))) sa_nil))) sb_nil) sb_nil) (sb_cons (ss_ret (se_dictc rfl T.f_dict (se_lc (own := [("k", 2)]) rfl sc__law_e_drawn.nd (sg_rng1 (se_call g.g__law_draw hr rfl T.m__law_draw T.d__law_draw.kp T.b__law_draw pass0 (sa_ref (i := 0) (sa_cons se_int sa_nil))) T.f_range) (blkOk_by (own := [("k", 2)]) (show blkC n__law_e_drawn (defScope (top 65)) _ [("k", 2)] = true from by decide +kernel)) (nAs hio (by decide)) (fun _ _ _ _ _ => (sp_name (i := 2) sc__law_e_drawn.nd (nA hio (by decide)))) (fun _ _ _ _ _ _ => sts_nil) (fun _ _ _ _ _ _ => (se_tup (sa_cons (se_call g.g__law_draw hr rfl T.m__law_draw T.d__law_draw.kp T.b__law_draw pass0 (sa_ref (i := 0) (sa_cons se_int sa_nil))) (sa_cons se_str sa_nil))))))) sb_nil)))))))
end
end LW
set_option Elab.async false
set_option linter.all false
set_option maxRecDepth 100000
/-! PK: reading the evaluator, in plain Lean. -/
namespace Ev
open PySem PySem.Spec
section
variable {cs : CS} {ρ : Env} {o : Option Ov} {i : Nat}
@[simp] theorem getE_z : getE (o :: ρ) 0 = o := by cases o <;> rfl
@[simp] theorem getE_s : getE (o :: ρ) (i + 1) = getE ρ i := rfl
@[simp] theorem setE_z {w : Ov} : setE (o :: ρ) 0 w = some w :: ρ := rfl
@[simp] theorem setE_s {w : Ov} : setE (o :: ρ) (i + 1) w = o :: setE ρ i w := rfl
@[simp] theorem clrE_z : clrE (o :: ρ) 0 = none :: ρ := rfl
@[simp] theorem clrE_s : clrE (o :: ρ) (i + 1) = o :: clrE ρ i := rfl
@[simp] theorem d_imm {d : PyData} : (Ov.imm d).d = d := rfl
@[simp] theorem d_own {xs : List PyData} : (Ov.own xs).d = .list xs := rfl
theorem ownE_eq {xs : List PyData} (h : getE ρ i = some (.own xs)) : ownE ρ i = some xs := by unfold ownE; rw [h]
/-! expressions -/
@[simp] theorem e_lit {c : PyData} : ev cs (.lit c) ρ = some (.imm c, ρ) := by unfold ev; rfl
@[simp] theorem e_glob {c : PyData} : ev cs (.glob c) ρ = some (.imm c, ρ) := by unfold ev; rfl
@[simp] theorem e_var : ev cs (.var i) ρ = (getE ρ i).map fun o => (.imm o.d, setE ρ i (.imm o.d)) := by unfold ev; rfl
@[simp] theorem e_bin {op : BOp} {a b : IE} : ev cs (.bin op a b) ρ = (ev cs a ρ).bind fun p => (ev cs b p.2).bind fun q => (binD op p.1.d q.1.d).map fun o => (o, q.2) := by rw [ev]
@[simp] theorem e_map1 {g : PyData → Option Ov} {a : IE} : ev cs (.map1 g a) ρ = (ev cs a ρ).bind fun p => (g p.1.d).map fun o => (o, p.2) := by rw [ev]
@[simp] theorem e_neg {a : IE} : ev cs (.neg a) ρ = (ev cs a ρ).bind fun p => (intOf p.1.d).map fun i => (.imm (.int (-i)), p.2) := by rw [ev]
@[simp] theorem e_bt {t : IT} : ev cs (.bt t) ρ = (evT cs t ρ).map fun p => (.imm (.bool p.1), p.2) := by rw [ev]
@[simp] theorem e_ife {t : IT} {a b : IE} : ev cs (.ife t a b) ρ = (evT cs t ρ).bind fun p => if p.1 = true then ev cs a p.2 else ev cs b p.2 := by
  rw [ev]; congr 1; funext p; rcases p with ⟨_ | _, _⟩ <;> rfl
@[simp] theorem e_tup {es : IEs} : ev cs (.tup es) ρ = (evs cs es ρ).bind fun p => (asD p.1).bind fun ds => if ds.length ≤ ll then some (.imm (.tuple ds), p.2) else none := by rw [ev]
@[simp] theorem e_lst {es : IEs} : ev cs (.lst es) ρ = (evs cs es ρ).bind fun p => (asD p.1).bind fun ds => if ds.length ≤ ll then some (.own ds, p.2) else none := by rw [ev]
@[simp] theorem e_idx {a i : IE} : ev cs (.idx a i) ρ = (ev cs a ρ).bind fun p => (ev cs i p.2).bind fun q => (idxD p.1.d q.1.d).map fun d => (.imm d, q.2) := by rw [ev]
@[simp] theorem e_idxv {x : Nat} {i : IE} : ev cs (.idxv x i) ρ = (getE ρ x).bind fun _ => (ev cs i ρ).bind fun q => (getE q.2 x).bind fun o => (idxD o.d q.1.d).map fun d => (.imm d, q.2) := by rw [ev]
@[simp] theorem e_slc {a : IE} {lo hi : IO} : ev cs (.slc a lo hi) ρ = (ev cs a ρ).bind fun p => (evO cs lo p.2).bind fun q => (evO cs hi q.2).bind fun r => (slcD p.1.d q.1 r.1).map fun o => (o, r.2) := by rw [ev]
@[simp] theorem e_slcv {x : Nat} {lo hi : IO} : ev cs (.slcv x lo hi) ρ = (getE ρ x).bind fun _ => (evO cs lo ρ).bind fun q => (evO cs hi q.2).bind fun r => (getE r.2 x).bind fun o => (slcD o.d q.1 r.1).map fun o => (o, r.2) := by rw [ev]
@[simp] theorem e_call {f : Nat} {args : IEs} : ev cs (.call f args) ρ = (evs cs args ρ).bind fun p => (arAll p.2 p.1).bind fun os => if (refsA p.1).Nodup then (cs f os).bind fun r => (putBack (refsA p.1) r.2 p.2).map fun ρ2 => (r.1, ρ2) else none := by rw [ev]
@[simp] theorem e_fn {b : Blt} {args : IEs} : ev cs (.fn b args) ρ = (evs cs args ρ).bind fun p => (asD p.1).bind fun ds => (fnD b ds).map fun o => (o, p.2) := by rw [ev]
@[simp] theorem e_fnv {b : Blt} {x : Nat} : ev cs (.fnv b x) ρ = (getE ρ x).bind fun o => (fnD b [o.d]).map fun r => (r, ρ) := by rw [ev]
@[simp] theorem e_isi {a : IE} {ts : List String} : ev cs (.isi a ts) ρ = (ev cs a ρ).map fun p => (.imm (.bool (isiD p.1.d ts)), p.2) := by rw [ev]
@[simp] theorem e_isiv {x : Nat} {ts : List String} : ev cs (.isiv x ts) ρ = (getE ρ x).map fun o => (.imm (.bool (isiD o.d ts)), ρ) := by rw [ev]
theorem backE_one {old : Env} {i : Nat} (h : getE old i = none) : backE old [i] ρ = clrE ρ i := by rw [backE, h]; rfl
theorem e_pop {x : Nat} {xs : List PyData} (h : getE ρ x = some (.own xs)) : ev cs (.pop x) ρ = (xs[xs.length - 1]?).map fun d => (.imm d, setE ρ x (.own xs.dropLast)) := by rw [ev, h]
theorem e_lc {is : List Nat} {g : IG} {t : IT} {e : IE} : ev cs (.lc is g t e) ρ = (evG cs g ρ).bind fun p => (goLc is (evT cs t) (ev cs e) p.1 (clrAll is p.2)).map fun r => (.own r.1, backE p.2 is r.2) := by rw [ev]
@[simp] theorem e_nil : evs cs .nil ρ = some ([], ρ) := by rw [evs]
@[simp] theorem e_cons {e : IE} {es : IEs} : evs cs (.cons e es) ρ = (ev cs e ρ).bind fun p => (evs cs es p.2).map fun q => (.d p.1.d :: q.1, q.2) := by rw [evs]
@[simp] theorem e_ref {x : Nat} {es : IEs} : evs cs (.ref x es) ρ = (getE ρ x).bind fun _ => (evs cs es ρ).map fun q => (.r x :: q.1, q.2) := by rw [evs]
@[simp] theorem e_non : evO cs .non ρ = some (none, ρ) := by rw [evO]
@[simp] theorem e_som {e : IE} : evO cs (.som e) ρ = (ev cs e ρ).bind fun p => (intOf p.1.d).map fun i => (some i, p.2) := by rw [evO]
@[simp] theorem e_callk {f : Nat} {pm : List Nat} {args : IEs} : ev cs (.callk f pm args) ρ = (evs cs args ρ).bind fun p => (asD p.1).bind fun ds => (permD pm ds).bind fun es => (cs f (es.map Ov.imm)).bind fun r => if r.2 = [] then some (r.1, p.2) else none := by rw [ev]
@[simp] theorem permD_nil {ds : List PyData} : permD [] ds = some [] := rfl
@[simp] theorem permD_cons {i : Nat} {pm : List Nat} {ds : List PyData} : permD (i :: pm) ds = (ds[i]?).bind fun d => (permD pm ds).map (d :: ·) := rfl
@[simp] theorem e_prim {g : Env → Option (Ov × Env)} : ev cs (.prim g) ρ = g ρ := by rw [ev]
/-! tests -/
@[simp] theorem t_tt : evT cs .tt ρ = some (true, ρ) := by rw [evT]
@[simp] theorem t_val {e : IE} : evT cs (.val e) ρ = (ev cs e ρ).bind fun p => (truD p.1.d).map fun b => (b, p.2) := by rw [evT]
@[simp] theorem t_valv {x : Nat} : evT cs (.valv x) ρ = (getE ρ x).bind fun o => (truD o.d).map fun b => (b, ρ) := by rw [evT]
@[simp] theorem t_bv {e : IE} : evT cs (.bv e) ρ = (ev cs e ρ).bind fun p => (boolOf p.1.d).map fun b => (b, p.2) := by rw [evT]
@[simp] theorem t_cmp {op : COp} {a b : IE} : evT cs (.cmp op a b) ρ = (ev cs a ρ).bind fun p => (ev cs b p.2).bind fun q => (cmpD op p.1.d q.1.d).map fun k => (k, q.2) := by rw [evT]
@[simp] theorem t_chain {o1 o2 : COp} {a b c : IE} : evT cs (.chain o1 o2 a b c) ρ = (ev cs a ρ).bind fun p => (ev cs b p.2).bind fun q => (cmpD o1 p.1.d q.1.d).bind fun k => if k = true then (ev cs c q.2).bind fun r => (cmpD o2 q.1.d r.1.d).map fun k => (k, r.2) else some (false, q.2) := by
  rw [evT]; congr 1; funext p; congr 1; funext q; congr 1; funext k; cases k <;> rfl
@[simp] theorem t_and {a b : IT} : evT cs (.and a b) ρ = (evT cs a ρ).bind fun p => if p.1 = true then evT cs b p.2 else some (false, p.2) := by
  rw [evT]; congr 1; funext p; rcases p with ⟨_ | _, _⟩ <;> rfl
@[simp] theorem t_or {a b : IT} : evT cs (.or a b) ρ = (evT cs a ρ).bind fun p => if p.1 = true then some (true, p.2) else evT cs b p.2 := by
  rw [evT]; congr 1; funext p; rcases p with ⟨_ | _, _⟩ <;> rfl
@[simp] theorem t_not {a : IT} : evT cs (.not a) ρ = (evT cs a ρ).map fun p => (!p.1, p.2) := by rw [evT]
/-! iterables -/
@[simp] theorem g_seq {e : IE} : evG cs (.seq e) ρ = (ev cs e ρ).bind fun p => ((seqOf p.1.d).or (charsOf p.1.d)).map fun xs => (xs, p.2) := by rw [evG]
theorem g_rng1 {e : IE} : evG cs (.rng1 e) ρ = (ev cs e ρ).bind fun p => (intOf p.1.d).bind fun k => if small k && decide (k ≤ ll) then some (rngD 0 k.toNat, p.2) else none := by rw [evG]
theorem g_rng2 {a b : IE} : evG cs (.rng2 a b) ρ = (ev cs a ρ).bind fun p => (ev cs b p.2).bind fun q => (intOf p.1.d).bind fun i => (intOf q.1.d).bind fun j => if small i && small j && decide (j - i ≤ ll) then some (rngD i (j - i).toNat, q.2) else none := by rw [evG]
@[simp] theorem g_enum {e : IE} : evG cs (.enum e) ρ = (ev cs e ρ).bind fun p => (seqOf p.1.d).map fun xs => (enumL 0 xs, p.2) := by rw [evG]
@[simp] theorem g_zip {a b : IE} : evG cs (.zip a b) ρ = (ev cs a ρ).bind fun p => (ev cs b p.2).bind fun q => (pairOf p.1.d q.1.d).map fun r => (zipL r.1 r.2, q.2) := by rw [evG]
@[simp] theorem g_rev {e : IE} : evG cs (.rev e) ρ = (ev cs e ρ).bind fun p => (seqOf p.1.d).map fun xs => (xs.reverse, p.2) := by rw [evG]
theorem rng_ok {n : Nat} (h : n ≤ 1000000) : small (n : Int) = true ∧ n ≤ ll := by
  refine ⟨?_, ?_⟩
  · unfold small
    rw [Bool.and_eq_true, decide_eq_true_eq, decide_eq_true_eq]
    omega
  · unfold ll; omega
theorem rng_c {n : Nat} (h : n ≤ 1000000) : (small (n : Int) && decide ((n : Int) ≤ ((ll : Nat) : Int))) = true := by
  rw [(rng_ok h).1, Bool.true_and, decide_eq_true_eq]
  exact Int.ofNat_le.mpr (rng_ok h).2
theorem rng_c2 {i n : Nat} (hi : i ≤ 1000000) (h : n ≤ 1000000) : (small (i : Int) && small (n : Int) && decide ((n : Int) - (i : Int) ≤ ((ll : Nat) : Int))) = true := by
  rw [(rng_ok h).1, (rng_ok hi).1, Bool.true_and, Bool.true_and, decide_eq_true_eq]
  have := Int.ofNat_le.mpr (rng_ok h).2
  omega
theorem g_rng1N {e : IE} {n : Nat} {ρ1 : Env} (h : ev cs e ρ = some (.imm (.int n), ρ1)) (hn : n ≤ 1000000) : evG cs (.rng1 e) ρ = some (rngD 0 n, ρ1) := by
  rw [g_rng1]
  refine Option.bind_eq_some_iff.mpr ⟨_, h, Option.bind_eq_some_iff.mpr ⟨_, rfl, ?_⟩⟩
  refine (if_pos (rng_c hn)).trans ?_
  rw [Int.toNat_natCast]
theorem g_rng2N {a b : IE} {i n : Nat} {ρ1 ρ2 : Env} (h : ev cs a ρ = some (.imm (.int i), ρ1)) (h' : ev cs b ρ1 = some (.imm (.int n), ρ2)) (hi : i ≤ 1000000) (hn : n ≤ 1000000) : evG cs (.rng2 a b) ρ = some (rngD i (n - i), ρ2) := by
  rw [g_rng2]
  refine Option.bind_eq_some_iff.mpr ⟨_, h, Option.bind_eq_some_iff.mpr ⟨_, h', Option.bind_eq_some_iff.mpr ⟨_, rfl, Option.bind_eq_some_iff.mpr ⟨_, rfl, ?_⟩⟩⟩⟩
  refine (if_pos (rng_c2 hi hn)).trans ?_
  rw [show ((n : Int) - (i : Int)).toNat = n - i by omega]
/-! statements -/
@[simp] theorem s_set {e : IE} : evS cs (.set i e) ρ = (ev cs e ρ).map fun p => (.next, setE p.2 i p.1) := by rw [evS]
@[simp] theorem s_par {is : List Nat} {es : IEs} : evS cs (.par is es) ρ = (evs cs es ρ).bind fun p => (asD p.1).bind fun ds => (setAll is ds p.2).map fun ρ2 => (.next, ρ2) := by rw [evS]
theorem s_unp {is : List Nat} {e : IE} {ds : List PyData} {ov : Ov} {ρ1 : Env} (h : ev cs e ρ = some (ov, ρ1)) (hd : ov.d = .tuple ds) : evS cs (.unp is e) ρ = (setAll is ds ρ1).map fun ρ2 => (.next, ρ2) := by rw [evS, h]; simp [hd]
@[simp] theorem s_put {x : Nat} {i e : IE} : evS cs (.put x i e) ρ = (ev cs e ρ).bind fun p => (getE p.2 x).bind fun _ => (ev cs i p.2).bind fun q => (intOf q.1.d).bind fun k => (ownE q.2 x).bind fun xs => (ixN xs.length k).map fun j => (.next, setE q.2 x (.own (xs.set j p.1.d))) := by
  rw [evS]; congr 1; funext p; congr 1; funext _; congr 1; funext q; congr 1; funext k
  unfold ownE; cases getE q.2 x with
  | none => rfl
  | some o => cases o <;> rfl
@[simp] theorem s_augA {x : Nat} {e : IE} : evS cs (.aug x .add e) ρ = (getE ρ x).bind fun o => (intOf o.d).bind fun i => (ev cs e ρ).bind fun p => (intOf p.1.d).map fun j => (.next, setE p.2 x (.imm (.int (i + j)))) := by
  rw [evS]; congr 1; funext o; congr 1; funext i; congr 1; funext p; cases intOf p.1.d <;> rfl
@[simp] theorem s_app {x : Nat} {e : IE} : evS cs (.app x e) ρ = (ownE ρ x).bind fun _ => (ev cs e ρ).bind fun p => (ownE p.2 x).bind fun xs => if xs.length < ll then some (.next, setE p.2 x (.own (xs ++ [p.1.d]))) else none := by
  rw [evS]; congr 1; funext _; congr 1; funext p
  unfold ownE; cases getE p.2 x with
  | none => rfl
  | some o => cases o <;> rfl
@[simp] theorem s_ext {x : Nat} {e : IE} : evS cs (.ext x e) ρ = (ownE ρ x).bind fun _ => (ev cs e ρ).bind fun p => (listOf p.1.d).bind fun ys => (ownE p.2 x).bind fun xs => if xs.length + ys.length ≤ ll then some (.next, setE p.2 x (.own (xs ++ ys))) else none := by
  rw [evS]; congr 1; funext _; congr 1; funext p; congr 1; funext ys
  unfold ownE; cases getE p.2 x with
  | none => rfl
  | some o => cases o <;> rfl
@[simp] theorem s_ex {e : IE} : evS cs (.ex e) ρ = (ev cs e ρ).map fun p => (.next, p.2) := by rw [evS]
@[simp] theorem s_ite {t : IT} {a b : ISs} : evS cs (.ite t a b) ρ = (evT cs t ρ).bind fun p => if p.1 = true then evSs cs a p.2 else evSs cs b p.2 := by
  rw [evS]; congr 1; funext p; rcases p with ⟨_ | _, _⟩ <;> rfl
theorem s_whl {t : IT} {b : ISs} : evS cs (.whl t b) ρ = whl (evT cs t) (evSs cs b) ρ := by rw [evS]
theorem s_loop {is : List Nat} {g : IG} {b : ISs} : evS cs (.loop is g b) ρ = (evG cs g ρ).bind fun p => goFor is (evSs cs b) p.1 p.2 := by rw [evS]
@[simp] theorem s_ret {e : IE} : evS cs (.ret e) ρ = (ev cs e ρ).map fun p => (.ret p.1, p.2) := by rw [evS]
@[simp] theorem s_retv {x : Nat} : evS cs (.retv x) ρ = (getE ρ x).map fun o => (.ret o, clrE ρ x) := by rw [evS]
@[simp] theorem s_retN : evS cs .retN ρ = some (.ret (.imm .none), ρ) := by rw [evS]
@[simp] theorem s_pass : evS cs .pass ρ = some (.next, ρ) := by rw [evS]
@[simp] theorem s_brk : evS cs .brk ρ = some (.brk, ρ) := by rw [evS]
@[simp] theorem s_cont : evS cs .cont ρ = some (.cont, ρ) := by rw [evS]
@[simp] theorem s_prim {g : Env → Option (Out × Env)} : evS cs (.prim g) ρ = g ρ := by rw [evS]
@[simp] theorem b_nil : evSs cs .nil ρ = some (.next, ρ) := by rw [evSs]
/-- a block goes on -/
def thenB (k : Env → Option (Out × Env)) : Out × Env → Option (Out × Env)
  | (.next, ρ) => k ρ
  | (.brk, ρ) => some (.brk, ρ)
  | (.cont, ρ) => some (.cont, ρ)
  | (.ret v, ρ) => some (.ret v, ρ)
@[simp] theorem b_cons {s : IS} {ss : ISs} : evSs cs (.cons s ss) ρ = (evS cs s ρ).bind (thenB (evSs cs ss)) := by
  rw [evSs]; congr 1
@[simp] theorem thenB_next {k : Env → Option (Out × Env)} : thenB k (.next, ρ) = k ρ := rfl
@[simp] theorem thenB_brk {k : Env → Option (Out × Env)} : thenB k (.brk, ρ) = some (.brk, ρ) := rfl
@[simp] theorem thenB_cont {k : Env → Option (Out × Env)} : thenB k (.cont, ρ) = some (.cont, ρ) := rfl
@[simp] theorem thenB_ret {k : Env → Option (Out × Env)} {v : Ov} : thenB k (.ret v, ρ) = some (.ret v, ρ) := rfl
/-! loops -/
theorem whl_eq {test : Env → Option (Bool × Env)} {body : Env → Option (Out × Env)} : whl test body ρ = (test ρ).bind fun p => if p.1 = true then (body p.2).bind fun q => match q.1 with
    | .next => whl test body q.2
    | .cont => whl test body q.2
    | .brk => some (.next, q.2)
    | .ret v => some (.ret v, q.2)
  else some (.next, p.2) := by
  rw [whl]
  cases test ρ with
  | none => rfl
  | some p =>
    show (if p.1 = true then _ else _) = (if p.1 = true then _ else _)
    split
    · cases body p.2 with
      | none => rfl
      | some q => rcases q with ⟨_ | _ | _ | _, _⟩ <;> rfl
    · rfl
theorem whl_stop {test : Env → Option (Bool × Env)} {body : Env → Option (Out × Env)} {ρ1 : Env} (h : test ρ = some (false, ρ1)) : whl test body ρ = some (.next, ρ1) := by rw [whl_eq, h]; rfl
theorem whl_go {test : Env → Option (Bool × Env)} {body : Env → Option (Out × Env)} {ρ1 ρ2 : Env} (h : test ρ = some (true, ρ1)) (hb : body ρ1 = some (.next, ρ2)) : whl test body ρ = whl test body ρ2 := by rw [whl_eq, h]; simp [hb]
theorem goFor_nil {is : List Nat} {body : Env → Option (Out × Env)} : goFor is body [] ρ = some (.next, ρ) := by rw [goFor]
theorem goFor_go {is : List Nat} {body : Env → Option (Out × Env)} {d : PyData} {ds : List PyData} {ρ1 ρ2 : Env} (h : bindPat is d ρ = some ρ1) (hb : body ρ1 = some (.next, ρ2)) : goFor is body (d :: ds) ρ = goFor is body ds ρ2 := by rw [goFor, h]; simp [hb]
theorem goFor_ret {is : List Nat} {body : Env → Option (Out × Env)} {d : PyData} {ds : List PyData} {ρ1 ρ2 : Env} {v : Ov} (h : bindPat is d ρ = some ρ1) (hb : body ρ1 = some (.ret v, ρ2)) : goFor is body (d :: ds) ρ = some (.ret v, ρ2) := by rw [goFor, h]; simp [hb]
theorem goLc_nil {is : List Nat} {t : Env → Option (Bool × Env)} {e : Env → Option (Ov × Env)} : goLc is t e [] ρ = some ([], ρ) := by rw [goLc]
theorem goLc_go {is : List Nat} {t : Env → Option (Bool × Env)} {e : Env → Option (Ov × Env)} {d : PyData} {ds : List PyData} {ρ1 ρ2 ρ3 : Env} {o : Ov} (h : bindPat is d ρ = some ρ1) (ht : t ρ1 = some (true, ρ2)) (he : e ρ2 = some (o, ρ3)) :
    goLc is t e (d :: ds) ρ = (goLc is t e ds (clrAll is ρ3)).map fun r => (o.d :: r.1, r.2) := by rw [goLc, h]; simp [ht, he]
theorem goLc_no {is : List Nat} {t : Env → Option (Bool × Env)} {e : Env → Option (Ov × Env)} {d : PyData} {ds : List PyData} {ρ1 ρ2 : Env} (h : bindPat is d ρ = some ρ1) (ht : t ρ1 = some (false, ρ2)) :
    goLc is t e (d :: ds) ρ = goLc is t e ds (clrAll is ρ2) := by rw [goLc, h]; simp [ht]
/-- a comprehension without a test, that leaves the locals as they are -/
theorem goLc_map {is : List Nat} {e : Env → Option (Ov × Env)} {t : Env → Option (Bool × Env)} (f : PyData → PyData) {ds : List PyData} (hc : clrAll is ρ = ρ)
    (h : ∀ d ∈ ds, ∃ ρ1 ρ2 ρ3 o, bindPat is d ρ = some ρ1 ∧ t ρ1 = some (true, ρ2) ∧ e ρ2 = some (o, ρ3) ∧ o.d = f d ∧ clrAll is ρ3 = ρ) : goLc is t e ds ρ = some (ds.map f, ρ) := by
  induction ds with
  | nil => exact goLc_nil
  | cons d ds ih =>
    obtain ⟨ρ1, ρ2, ρ3, o, h1, h2, h3, h4, h5⟩ := h d List.mem_cons_self
    rw [goLc_go h1 h2 h3, h5, ih fun x hx => h x (List.mem_cons_of_mem _ hx), h4]
    rfl
end
/-! calls -/
/-- a call's end -/
def endC (io : List Nat) : Out × Env → Option (Ov × List (List PyData))
  | (.ret o, ρ) => (outs io ρ).map fun l => (o, l)
  | (.next, ρ) => (outs io ρ).map fun l => (.imm .none, l)
  | (.brk, _) => none
  | (.cont, _) => none
theorem callN_code {Φ : Nat → Option FX} {n f : Nat} {d : FD} {os : List Ov} (h : Φ f = some (.code d)) (h1 : os.length = d.np) (h2 : owns os = d.io) :
    callN Φ (n + 1) f os = (evSs (callN Φ n) d.body (start0 d os)).bind (endC d.io) := by
  rw [callN, h]; dsimp only; rw [if_pos ⟨h1, h2⟩]; congr 1; funext p; rcases p with ⟨_ | _ | _ | _, _⟩ <;> rfl
theorem callN_ret {Φ : Nat → Option FX} {n f : Nat} {d : FD} {os : List Ov} {o : Ov} {ρ : Env} {l : List (List PyData)} (h : Φ f = some (.code d)) (h1 : os.length = d.np) (h2 : owns os = d.io) (hb : evSs (callN Φ n) d.body (start0 d os) = some (.ret o, ρ)) (ho : outs d.io ρ = some l) :
    callN Φ (n + 1) f os = some (o, l) := by rw [callN_code h h1 h2, hb]; simp [endC, ho]
theorem callN_next {Φ : Nat → Option FX} {n f : Nat} {d : FD} {os : List Ov} {ρ : Env} {l : List (List PyData)} (h : Φ f = some (.code d)) (h1 : os.length = d.np) (h2 : owns os = d.io) (hb : evSs (callN Φ n) d.body (start0 d os) = some (.next, ρ)) (ho : outs d.io ρ = some l) :
    callN Φ (n + 1) f os = some (.imm .none, l) := by rw [callN_code h h1 h2, hb]; simp [endC, ho]
section
variable {ρ : Env}
@[simp] theorem endC_ret {io : List Nat} {o : Ov} : endC io (.ret o, ρ) = (outs io ρ).map fun l => (o, l) := rfl
@[simp] theorem endC_next {io : List Nat} : endC io (.next, ρ) = (outs io ρ).map fun l => (.imm .none, l) := rfl
@[simp] theorem asD_nil : asD [] = some [] := rfl
@[simp] theorem asD_cons {x : PyData} {r : List Ar} : asD (.d x :: r) = (asD r).map (x :: ·) := rfl
@[simp] theorem setAll_nil : setAll [] [] ρ = some ρ := rfl
@[simp] theorem setAll_cons {i : Nat} {is : List Nat} {d : PyData} {ds : List PyData} : setAll (i :: is) (d :: ds) ρ = setAll is ds (setE ρ i (.imm d)) := rfl
@[simp] theorem bindPat_one {i : Nat} {d : PyData} : bindPat [i] d ρ = some (setE ρ i (.imm d)) := by cases d <;> rfl
@[simp] theorem bindPat_two {i j : Nat} {is : List Nat} {ds : List PyData} : bindPat (i :: j :: is) (.tuple ds) ρ = setAll (i :: j :: is) ds ρ := rfl
@[simp] theorem clrAll_nil : clrAll [] ρ = ρ := rfl
@[simp] theorem clrAll_cons {i : Nat} {is : List Nat} : clrAll (i :: is) ρ = clrE (clrAll is ρ) i := rfl
@[simp] theorem backE_nil {old : Env} : backE old [] ρ = ρ := rfl
theorem backE_imm {old : Env} {i : Nat} {is : List Nat} {d : PyData} (h : getE old i = some (.imm d)) : backE old (i :: is) ρ = setE (backE old is ρ) i (.imm d) := by rw [backE, h]
theorem backE_non {old : Env} {i : Nat} {is : List Nat} (h : getE old i = none) : backE old (i :: is) ρ = clrE (backE old is ρ) i := by rw [backE, h]
@[simp] theorem arAll_nil : arAll ρ [] = some [] := rfl
@[simp] theorem arAll_d {x : PyData} {r : List Ar} : arAll ρ (.d x :: r) = (arAll ρ r).map (.imm x :: ·) := rfl
@[simp] theorem arAll_r {x : Nat} {r : List Ar} : arAll ρ (.r x :: r) = (ownE ρ x).bind fun xs => (arAll ρ r).map (.own xs :: ·) := by
  show ((ownE ρ x).map Ov.own).bind _ = _
  cases ownE ρ x <;> rfl
@[simp] theorem refsA_nil : refsA [] = [] := rfl
@[simp] theorem refsA_d {x : PyData} {r : List Ar} : refsA (.d x :: r) = refsA r := rfl
@[simp] theorem refsA_r {x : Nat} {r : List Ar} : refsA (.r x :: r) = x :: refsA r := rfl
@[simp] theorem putBack_nil : putBack [] [] ρ = some ρ := rfl
@[simp] theorem putBack_cons {x : Nat} {xs : List Nat} {l : List PyData} {ls : List (List PyData)} : putBack (x :: xs) (l :: ls) ρ = putBack xs ls (setE ρ x (.own l)) := rfl
@[simp] theorem outs_nil : outs [] ρ = some [] := rfl
@[simp] theorem outs_cons {i : Nat} {is : List Nat} : outs (i :: is) ρ = (ownE ρ i).bind fun xs => (outs is ρ).map (xs :: ·) := by
  unfold ownE; rw [outs]; cases getE ρ i with
  | none => rfl
  | some o => cases o <;> rfl
@[simp] theorem ownE_z {xs : List PyData} : ownE (some (.own xs) :: ρ) 0 = some xs := rfl
@[simp] theorem ownE_s {o : Option Ov} {i : Nat} : ownE (o :: ρ) (i + 1) = ownE ρ i := rfl
@[simp] theorem owns_eq {os : List Ov} : owns os = ownsF 0 os := rfl
@[simp] theorem ownsF_nil {k : Nat} : ownsF k [] = [] := rfl
@[simp] theorem ownsF_own {k : Nat} {xs : List PyData} {os : List Ov} : ownsF k (.own xs :: os) = k :: ownsF (k + 1) os := rfl
@[simp] theorem ownsF_imm {k : Nat} {x : PyData} {os : List Ov} : ownsF k (.imm x :: os) = ownsF (k + 1) os := rfl
@[simp] theorem start0_eq {d : FD} {os : List Ov} : start0 d os = os.map some ++ List.replicate (d.ns - os.length) none := rfl
@[simp] theorem binD_add {i j : Int} : binD .add (.int i) (.int j) = some (.imm (.int (i + j))) := rfl
@[simp] theorem binD_sub {i j : Int} : binD .sub (.int i) (.int j) = some (.imm (.int (i - j))) := rfl
@[simp] theorem binD_mul {i j : Int} : binD .mul (.int i) (.int j) = if mulOk i j then some (.imm (.int (i * j))) else none := rfl
@[simp] theorem binD_fdiv {i j : Int} : binD .fdiv (.int i) (.int j) = if divOk j then some (.imm (.int (i.fdiv j))) else none := rfl
@[simp] theorem binD_mod {i j : Int} : binD .mod (.int i) (.int j) = if j ≠ 0 then some (.imm (.int (i.fmod j))) else none := rfl
@[simp] theorem binD_pow {i j : Int} : binD .pow (.int i) (.int j) = if powOk i j then some (.imm (.int (i ^ j.toNat))) else none := rfl
@[simp] theorem binD_addL {xs ys : List PyData} : binD .add (.list xs) (.list ys) = if xs.length + ys.length ≤ ll then some (.own (xs ++ ys)) else none := rfl
@[simp] theorem binD_mulL {xs : List PyData} {k : Int} : binD .mul (.list xs) (.int k) = if repOk xs.length k then some (.own (List.replicate k.toNat xs).flatten) else none := rfl
@[simp] theorem truD_int {i : Int} : truD (.int i) = some (i != 0) := rfl
@[simp] theorem truD_bool {b : Bool} : truD (.bool b) = some b := rfl
@[simp] theorem truD_list {xs : List PyData} : truD (.list xs) = some (!xs.isEmpty) := rfl
@[simp] theorem truD_tuple {xs : List PyData} : truD (.tuple xs) = some (!xs.isEmpty) := rfl
@[simp] theorem intOf_int {i : Int} : intOf (.int i) = some i := rfl
@[simp] theorem boolOf_bool {b : Bool} : boolOf (.bool b) = some b := rfl
@[simp] theorem seqOf_list {xs : List PyData} : seqOf (.list xs) = some xs := rfl
@[simp] theorem seqOf_tuple {xs : List PyData} : seqOf (.tuple xs) = some xs := rfl
@[simp] theorem listOf_list {xs : List PyData} : listOf (.list xs) = some xs := rfl
@[simp] theorem cmpD_eq {a b : PyData} : cmpD .eq a b = eqD a b := rfl
@[simp] theorem cmpD_ne {a b : PyData} : cmpD .ne a b = (eqD a b).map (!·) := rfl
@[simp] theorem cmpD_lt {i j : Int} : cmpD .lt (.int i) (.int j) = some (decide (i < j)) := rfl
@[simp] theorem cmpD_le {i j : Int} : cmpD .le (.int i) (.int j) = some (decide (i ≤ j)) := rfl
@[simp] theorem cmpD_gt {i j : Int} : cmpD .gt (.int i) (.int j) = some (decide (j < i)) := rfl
@[simp] theorem cmpD_ge {i j : Int} : cmpD .ge (.int i) (.int j) = some (decide (j ≤ i)) := rfl
@[simp] theorem eqD_int {i j : Int} : eqD (.int i) (.int j) = some (decide (i = j)) := by
  simp [eqD, SeqAt.shaped, PyData.canLay0, PyData.depth, PyData.eqv]; rfl
@[simp] theorem fnD_lenL {xs : List PyData} : fnD .len [.list xs] = some (.imm (.int xs.length)) := rfl
@[simp] theorem fnD_lenT {xs : List PyData} : fnD .len [.tuple xs] = some (.imm (.int xs.length)) := rfl
@[simp] theorem fnD_abs {i : Int} : fnD .abs [.int i] = some (.imm (.int (i.natAbs : Nat))) := by
  show some (Ov.imm (.int (if i < 0 then -i else i))) = _
  congr 3
  split <;> omega
@[simp] theorem fnD_int {i : Int} : fnD .int [.int i] = some (.imm (.int i)) := rfl
@[simp] theorem fnD_max {i j : Int} : fnD .max [.int i, .int j] = some (.imm (.int (max i j))) := by
  show some (Ov.imm (.int (if j > i then j else i))) = _
  congr 3
  split <;> omega
@[simp] theorem fnD_min {i j : Int} : fnD .min [.int i, .int j] = some (.imm (.int (min i j))) := by
  show some (Ov.imm (.int (if j < i then j else i))) = _
  congr 3
  split <;> omega
@[simp] theorem fnD_all {xs : List PyData} : fnD .all [.list xs] = (bools xs).map fun bs => .imm (.bool (bs.all id)) := rfl
@[simp] theorem fnD_listL {xs : List PyData} : fnD .list [.list xs] = some (.own xs) := rfl
@[simp] theorem fnD_listT {xs : List PyData} : fnD .list [.tuple xs] = some (.own xs) := rfl
@[simp] theorem fnD_tupleL {xs : List PyData} : fnD .tuple [.list xs] = some (.imm (.tuple xs)) := rfl
@[simp] theorem fnD_tupleT {xs : List PyData} : fnD .tuple [.tuple xs] = some (.imm (.tuple xs)) := rfl
@[simp] theorem idxD_list {xs : List PyData} {i : Int} : idxD (.list xs) (.int i) = atD xs i := rfl
@[simp] theorem idxD_tuple {xs : List PyData} {i : Int} : idxD (.tuple xs) (.int i) = atD xs i := rfl
@[simp] theorem atD_nat {xs : List PyData} {k : Nat} : atD xs (k : Int) = xs[k]? := by
  unfold atD ixN
  by_cases h : k < xs.length
  · rw [if_pos (by omega), if_pos (by omega)]; simp
  · rw [if_pos (by omega), if_neg (by omega)]; simp; omega
@[simp] theorem atD_0 {xs : List PyData} : atD xs 0 = xs[0]? := atD_nat (k := 0)
@[simp] theorem atD_1 {xs : List PyData} : atD xs 1 = xs[1]? := atD_nat (k := 1)
@[simp] theorem atD_2 {xs : List PyData} : atD xs 2 = xs[2]? := atD_nat (k := 2)
@[simp] theorem atD_last {xs : List PyData} : atD xs (-1) = xs.getLast? := by
  unfold atD ixN
  rw [if_neg (by omega)]
  by_cases h : xs = []
  · subst h; rfl
  · have : 0 < xs.length := List.length_pos_iff.mpr h
    rw [if_pos (by omega), List.getLast?_eq_getElem?]
    show xs[(-1 + (xs.length : Int)).toNat]? = _
    congr 1; omega
theorem bools_map (f : PyData → Bool) (xs : List PyData) : bools (xs.map fun x => .bool (f x)) = some (xs.map f) := by
  induction xs with
  | nil => rfl
  | cons x xs ih => show (bools (xs.map fun x => PyData.bool (f x))).map (f x :: ·) = _; rw [ih]; rfl
end
end Ev
set_option Elab.async false
set_option linter.all false
set_option maxRecDepth 100000
set_option maxHeartbeats 0
/-! printed by pick.py from wip/pl: the plain laws that draw_ok, pick_ok, same_ok, put0, put2, Spr.mono rest on -/
namespace LW
open PySem PySem.Spec Ev
open PySem PySem.Spec Ev
abbrev Q2 := Int × Int
def fr (x : Q2) : PyData := .tuple [.int x.1, .int x.2]
def frL (x : Q2) : PyData := .list [.int x.1, .int x.2]
/-- d is the pair x, as a tuple or a list -/
def Fr (d : PyData) (x : Q2) : Prop := d = fr x ∨ d = frL x
def NR (x : Q2) : Prop := 0 < x.2 ∧ Int.gcd x.1 x.2 = 1
def Bd (k : Nat) (x : Q2) : Prop := x.1.natAbs < 2 ^ k ∧ x.2.natAbs < 2 ^ k
theorem Bd.mono {j k : Nat} {x : Q2} (h : Bd j x) (hk : j ≤ k) : Bd k x := ⟨Nat.lt_of_lt_of_le h.1 (Nat.pow_le_pow_right (by decide) hk), Nat.lt_of_lt_of_le h.2 (Nat.pow_le_pow_right (by decide) hk)⟩
theorem log_lt {n k : Nat} (hk : 0 < k) (h : n < 2 ^ k) : n.log2 < k := by
  by_cases z : n = 0
  · subst z; simpa using hk
  · exact (Nat.log2_lt z).mpr h
theorem mulOk_of {i j : Int} {a b : Nat} (h : i.natAbs < 2 ^ a) (h' : j.natAbs < 2 ^ b) (hab : a ≤ 400000) (hb : b ≤ 400000) : mulOk i j = true := by
  unfold mulOk
  rw [decide_eq_true_eq]
  have h1 := log_lt (k := a + 1) (by omega) (Nat.lt_of_lt_of_le h (Nat.pow_le_pow_right (by decide) (by omega)))
  have h2 := log_lt (k := b + 1) (by omega) (Nat.lt_of_lt_of_le h' (Nat.pow_le_pow_right (by decide) (by omega)))
  omega
open PySem PySem.Spec Ev
section
variable {n j k : Nat} {d e : PyData} {x y : Q2}
end
def isSeq : PyData → Bool
  | .list _ | .tuple _ => true
  | _ => false
theorem isSeq_eq (d : PyData) : isiD d ["list", "tuple"] = isSeq d := by cases d <;> rfl
theorem seqOf_isSeq {d : PyData} : isSeq d = (seqOf d).isSome := by cases d <;> rfl
theorem fnD_len {d : PyData} {xs : List PyData} (h : seqOf d = some xs) : fnD .len [d] = some (.imm (.int xs.length)) := by
  cases d <;> first | (cases h; rfl) | cases h
theorem idxD_seq {d : PyData} {xs : List PyData} (h : seqOf d = some xs) (i : Int) : idxD d (.int i) = atD xs i := by
  cases d <;> first | (cases h; rfl) | cases h
open PySem PySem.Spec Ev
inductive All2 {α β : Type} (R : α → β → Prop) : List α → List β → Prop
  | nil : All2 R [] []
  | cons {a b as bs} : R a b → All2 R as bs → All2 R (a :: as) (b :: bs)
section
variable {α β γ : Type} {R : α → β → Prop}
theorem All2.len : ∀ {as : List α} {bs : List β}, All2 R as bs → as.length = bs.length
  | _, _, .nil => rfl
  | _, _, .cons _ h => by simp [h.len]
end
/-- d is a list or a tuple of these fractions -/
def Po (d : PyData) (X : List Q2) : Prop := ∃ ds, seqOf d = some ds ∧ All2 Fr ds X
theorem bools_ok (f : PyData → Bool) {xs : List PyData} : (bools (xs.map fun x => .bool (f x))).map (fun bs => Ov.imm (.bool (bs.all id))) = some (.imm (.bool (xs.all f))) := by
  rw [bools_map]; simp [List.all_map]
theorem all_ok (f : PyData → Bool) {xs : List PyData} : fnD .all [.list (xs.map fun x => .bool (f x))] = some (.imm (.bool (xs.all f))) := by
  rw [fnD_all, bools_ok]
open PySem PySem.Spec Ev
theorem goLc_all2 {ρ : Ev.Env} {is : List Nat} {e : Ev.Env → Option (Ov × Ev.Env)} {t : Ev.Env → Option (Bool × Ev.Env)} {ds rs : List PyData} (hc : clrAll is ρ = ρ)
    (h : All2 (fun d r => ∃ ρ1 ρ2 ρ3 o, bindPat is d ρ = some ρ1 ∧ t ρ1 = some (true, ρ2) ∧ e ρ2 = some (o, ρ3) ∧ o.d = r ∧ clrAll is ρ3 = ρ) ds rs) : goLc is t e ds ρ = some (rs, ρ) := by
  induction h with
  | nil => exact goLc_nil
  | cons h _ ih =>
    obtain ⟨ρ1, ρ2, ρ3, o, h1, h2, h3, h4, h5⟩ := h
    rw [goLc_go h1 h2 h3, h5, ih, h4]; rfl
theorem All2.maps {α β γ : Type} {R : β → γ → Prop} {f : α → β} {g : α → γ} : ∀ {l : List α}, (∀ x ∈ l, R (f x) (g x)) → All2 R (l.map f) (l.map g)
  | [], _ => .nil
  | x :: l, h => .cons (h x List.mem_cons_self) (maps fun y hy => h y (List.mem_cons_of_mem _ hy))
/-- fractions in lowest terms of at most k bits -/
def PB (k : Nat) (X : List Q2) : Prop := ∀ x ∈ X, NR x ∧ Bd k x
theorem PB.mono {j k : Nat} {X : List Q2} (h : PB j X) (hk : j ≤ k) : PB k X := fun x hx => ⟨(h x hx).1, (h x hx).2.mono hk⟩
theorem Po.len {d : PyData} {X : List Q2} (h : Po d X) : fnD .len [d] = some (.imm (.int X.length)) := by
  obtain ⟨ds, hs, ha⟩ := h
  rw [fnD_len hs, ha.len]
section
variable {n j k : Nat} {d e : PyData} {X Y : List Q2}
end
open PySem PySem.Spec Ev
section
variable {n j k : Nat} {d e : PyData} {X Y : List Q2}
end
section
variable {n j k : Nat} {d e : PyData} {X Y : List Q2}
end
open PySem PySem.Spec Ev
section
variable {n j k : Nat} {d e : PyData} {X Y : List Q2}
end
open PySem PySem.Spec Ev
section
variable {n j k : Nat} {d e : PyData} {X Y : List Q2}
variable {x y : Q2}
end
open PySem PySem.Spec Ev
/-- a spring that at most K numbers were drawn from -/
def Spr (K : Nat) (l : List PyData) : Prop := ∃ (x y : Int) (z : Nat), l = [.int x, .int y, .int z] ∧ 0 ≤ y ∧ y < 2147483648 ∧ z ≤ K
theorem Spr.mono {j k : Nat} {l : List PyData} (h : Spr j l) (hk : j ≤ k) : Spr k l := let ⟨x, y, z, a, b, c, d⟩ := h; ⟨x, y, z, a, b, c, by omega⟩
theorem put0 {x y z w : PyData} : [x, y, z].set 0 w = [w, y, z] := rfl
theorem put2 {x y z w : PyData} : [x, y, z].set 2 w = [x, y, w] := rfl
theorem ix3_0 : ixN 3 0 = some 0 := by decide
theorem ix3_2 : ixN 3 2 = some 2 := by decide
theorem powOk3 {i : Int} (h : i.natAbs < 2 ^ 64) : powOk i 3 = true := by
  unfold powOk
  rw [Bool.and_eq_true, Bool.and_eq_true, decide_eq_true_eq, decide_eq_true_eq, decide_eq_true_eq]
  exact ⟨⟨by decide, by decide⟩, h⟩
theorem divOk_of {j : Int} {k : Nat} (h : 0 < j) (hb : j.natAbs < 2 ^ k) (hk : k ≤ 9000) : divOk j = true := by
  unfold divOk
  rw [Bool.and_eq_true, decide_eq_true_eq, decide_eq_true_eq]
  refine ⟨by omega, ?_⟩
  by_cases z : k = 0
  · subst z; simp at hb; omega
  · exact Nat.lt_of_lt_of_le (log_lt (by omega) hb) hk
theorem mulOk64 {i j : Int} (h : i.natAbs < 2 ^ 64) (h' : j.natAbs < 2 ^ 64) : mulOk i j = true := mulOk_of h h' (by decide) (by decide)
theorem p64 : (2 : Nat) ^ 64 = 18446744073709551616 := by decide
theorem draw_ok {n K k : Nat} {l : List PyData} {m : Int} (h : Spr K l) (hK : K ≤ 1000000000) (hm : 0 < m) (hb : m.natAbs < 2 ^ k) (hk : k ≤ 9000) :
    ∃ (t : Int) (l' : List PyData), callN Φ (n + 1) 27 [.own l, .imm (.int m)] = some (.imm (.int t), [l']) ∧ 0 ≤ t ∧ t < m ∧ Spr (K + 1) l' := by
  obtain ⟨x, y, z, rfl, y0, y1, zK⟩ := h
  have dm := divOk_of hm hb hk
  have m0 : m ≠ 0 := by omega
  by_cases hx : 0 < x
  · refine ⟨x.fmod m, _, ?_, Int.fmod_nonneg_of_pos _ hm, Int.fmod_lt_of_pos _ hm, x.fdiv m, y, z, rfl, y0, y1, by omega⟩
    rw [callN_code h__law_draw rfl rfl]
    simp -implicitDefEqProofs [i__law_draw, hx, m0, dm, ix3_0]
  · have e1 : mulOk 6364137 ((z : Int) + 1) = true := mulOk64 (by rw [p64]; omega) (by rw [p64]; omega)
    have q1 : ((y + 6364137 * ((z : Int) + 1) + 1442695) : Int).natAbs < 2 ^ 64 := by rw [p64]; omega
    have e2 := powOk3 q1
    obtain ⟨a, ha⟩ : ∃ a, a = ((y + 6364137 * ((z : Int) + 1) + 1442695) ^ 3 : Int).fmod 2147483647 := ⟨_, rfl⟩
    have a0 : 0 ≤ a := by rw [ha]; exact Int.fmod_nonneg_of_pos _ (by decide)
    have a1 : a < 2147483647 := by rw [ha]; exact Int.fmod_lt_of_pos _ (by decide)
    have e3 : mulOk a 48271 = true := mulOk64 (by rw [p64]; omega) (by rw [p64]; omega)
    have e4 : mulOk 11 ((z : Int) + 1) = true := mulOk64 (by rw [p64]; omega) (by rw [p64]; omega)
    have q2 : ((a * 48271 + 11 * ((z : Int) + 1)) : Int).natAbs < 2 ^ 64 := by rw [p64]; omega
    have e5 := powOk3 q2
    have d8 : divOk 8 = true := divOk_of (k := 4) (by decide) (by decide) (by decide)
    refine ⟨((((a * 48271 + 11 * ((z : Int) + 1)) ^ 3 : Int).fmod 2147483629).fdiv 8).fmod m, [.int x, .int y, .int ((z + 1 : Nat) : Int)], ?_, Int.fmod_nonneg_of_pos _ hm, Int.fmod_lt_of_pos _ hm, x, y, z + 1, rfl, y0, y1, by omega⟩
    rw [callN_code h__law_draw rfl rfl]
    have ha' : (((y + 6364137 * ((z : Int) + 1) + 1442695) ^ (3 : Int).toNat : Int)).fmod 2147483647 = a := by rw [ha]; rfl
    simp -implicitDefEqProofs [i__law_draw, hx, m0, ix3_2, e1, e2, ← ha, e3, e4, e5, d8]
theorem pick_ok {n K : Nat} {l : List PyData} {d : PyData} {xs : List PyData} (h : Spr K l) (hK : K ≤ 1000000000) (hd : seqOf d = some xs) (h0 : xs ≠ []) (hl : xs.length ≤ 1000000000) :
    ∃ (x : PyData) (l' : List PyData), callN Φ (n + 2) 28 [.own l, .imm d] = some (.imm x, [l']) ∧ x ∈ xs ∧ Spr (K + 1) l' := by
  have hp : 0 < xs.length := List.length_pos_iff.mpr h0
  obtain ⟨t, l', e, t0, t1, s⟩ := draw_ok (n := n) (k := 40) (m := (xs.length : Int)) h hK (by omega) (by show (xs.length : Int).natAbs < 1099511627776; omega) (by decide)
  obtain ⟨i, rfl⟩ := Int.eq_ofNat_of_zero_le t0
  have hi : i < xs.length := by omega
  refine ⟨xs[i], l', ?_, List.getElem_mem _, s⟩
  rw [callN_code h__law_pick rfl rfl]
  simp -implicitDefEqProofs [i__law_pick, fnD_len hd, e, idxD_seq hd, List.getElem?_eq_getElem hi]
open PySem PySem.Spec Ev
mutual
/-- no dict within -/
def nd : PyData → Bool
  | .none | .bool _ | .int _ | .str _ => true
  | .list xs | .tuple xs => ndA xs
  | .dict _ => false
def ndA : List PyData → Bool
  | [] => true
  | x :: xs => nd x && ndA xs
/-- the lists and tuples within -/
def cnt : PyData → Nat
  | .list xs | .tuple xs => cntA xs + 1
  | _ => 0
def cntA : List PyData → Nat
  | [] => 0
  | x :: xs => cnt x + cntA xs
/-- how deep -/
def dep : PyData → Nat
  | .list xs | .tuple xs => depA xs + 1
  | _ => 0
def depA : List PyData → Nat
  | [] => 0
  | x :: xs => max (dep x) (depA xs)
end
mutual
inductive Ls : PyData → PyData → Prop
  | atom {d : PyData} : isSeq d = false → Ls d d
  | seq {d d' : PyData} {xs ys : List PyData} : seqOf d = some xs → seqOf d' = some ys → LsA xs ys → Ls d d'
inductive LsA : List PyData → List PyData → Prop
  | nil : LsA [] []
  | cons {x y xs ys} : Ls x y → LsA xs ys → LsA (x :: xs) (y :: ys)
end
theorem seq_dep {d : PyData} {xs : List PyData} (h : seqOf d = some xs) : dep d = depA xs + 1 ∧ cnt d = cntA xs + 1 ∧ nd d = ndA xs := by
  cases d <;> first | (cases h; exact ⟨rfl, rfl, rfl⟩) | cases h
theorem isi_dict {d : PyData} (h : nd d = true) : isiD d ["dict"] = false := by cases d <;> first | rfl | cases h
theorem Ls.int {i : Int} {d : PyData} (h : Ls (.int i) d) : d = .int i := by
  cases h with
  | atom _ => rfl
  | seq h _ _ => cases h
open PySem PySem.Spec Ev
theorem eqD_refl {d : PyData} (h : isSeq d = false) (hl : d.canLay0 = true) : eqD d d = some true := by
  cases d with
  | none => simp [eqD, SeqAt.shaped, PyData.canLay0, PyData.depth, PyData.eqv]
  | bool b => simp [eqD, SeqAt.shaped, PyData.canLay0, PyData.depth, PyData.eqv]
  | int b => simp [eqD, SeqAt.shaped, PyData.canLay0, PyData.depth, PyData.eqv]
  | str b =>
    rw [PyData.canLay0] at hl
    simp [eqD, SeqAt.shaped, PyData.canLay0, PyData.depth, PyData.eqv, hl]
  | list _ => cases h
  | tuple _ => cases h
  | dict _ => simp [PyData.canLay0] at hl
theorem lay_nd : (∀ d : PyData, d.canLay0 = true → nd d = true) ∧ ∀ ds : List PyData, PyData.canLayAll0 ds = true → ndA ds = true := by
  have key : ∀ d : PyData, d.canLay0 = true → nd d = true := by
    intro d
    refine PyData.rec (motive_1 := fun d => d.canLay0 = true → nd d = true) (motive_2 := fun ds => PyData.canLayAll0 ds = true → ndA ds = true) (motive_3 := fun _ => True) (motive_4 := fun _ => True) ?_ ?_ ?_ ?_ ?_ ?_ ?_ ?_ ?_ ?_ ?_ ?_ d
    · intro _; rfl
    · intro _ _; rfl
    · intro _ _; rfl
    · intro _ _; rfl
    · intro xs ih h; exact ih (by simpa [PyData.canLay0] using h)
    · intro xs ih h; exact ih (by simpa [PyData.canLay0] using h)
    · intro _ _ h; cases h
    · intro _; rfl
    · intro x xs h1 h2 h
      simp only [PyData.canLayAll0, Bool.and_eq_true] at h
      simp only [ndA, Bool.and_eq_true]
      exact ⟨h1 h.1, h2 h.2⟩
    · trivial
    · intros; trivial
    · intros; trivial
  refine ⟨key, fun ds => ?_⟩
  induction ds with
  | nil => intro _; rfl
  | cons x xs ih =>
    intro h
    simp only [PyData.canLayAll0, Bool.and_eq_true] at h
    simp only [ndA, Bool.and_eq_true]
    exact ⟨key x h.1, ih h.2⟩
theorem zip_map {f : PyData → PyData} (xs : List PyData) : zipL xs xs = xs.map fun x => .tuple [x, x] := by
  induction xs with
  | nil => rfl
  | cons x xs ih => rw [zipL, ih]; rfl
theorem lay_mem : ∀ {xs : List PyData} {x : PyData}, PyData.canLayAll0 xs = true → x ∈ xs → x.canLay0 = true
  | y :: ys, x, h, m => by
    simp only [PyData.canLayAll0, Bool.and_eq_true] at h
    rcases List.mem_cons.mp m with rfl | m
    · exact h.1
    · exact lay_mem h.2 m
theorem dep_mem : ∀ {xs : List PyData} {x : PyData}, x ∈ xs → dep x ≤ depA xs
  | y :: ys, x, m => by
    simp only [depA]
    rcases List.mem_cons.mp m with rfl | m
    · omega
    · have := dep_mem m; omega
theorem bool_eqD (b : Bool) : eqD (.bool b) (.bool b) = some true := eqD_refl rfl rfl
theorem same_ok : ∀ (D n : Nat) (d : PyData), d.canLay0 = true → dep d ≤ D → callN Φ (n + D + 1) 30 [.imm d, .imm d] = some (.imm (.bool true), [])
  | D, n, d, hl, hd => by
    have hdi := isi_dict (lay_nd.1 d hl)
    cases hs : seqOf d with
    | none =>
      have hi : isSeq d = false := by rw [seqOf_isSeq, hs]; rfl
      have hi' := isSeq_eq d
      rw [hi] at hi'
      have e0 := eqD_refl hi hl
      have h3 : isiD d ["dict", "list", "tuple"] = false := by
        cases d with
        | dict _ => simp [PyData.canLay0] at hl
        | list _ => cases hs
        | tuple _ => cases hs
        | _ => rfl
      rw [callN_code h__law_same rfl rfl]
      cases d with
      | none => simp [i__law_same, hdi, isSeq_eq, hi, h3, bool_eqD, e0, cmpD, isNone, show isNone PyData.none = true from rfl]
      | bool b => simp [i__law_same, hdi, isSeq_eq, hi, h3, bool_eqD, e0, cmpD, isNone]
      | int b => simp [i__law_same, hdi, isSeq_eq, hi, h3, bool_eqD, e0, cmpD, isNone]
      | str b => simp [i__law_same, hdi, isSeq_eq, hi, h3, bool_eqD, e0, cmpD, isNone]
      | list xs => cases hs
      | tuple xs => cases hs
      | dict _ => simp [PyData.canLay0] at hl
    | some xs =>
      obtain ⟨h1, h2, h3⟩ := seq_dep hs
      have hi : isSeq d = true := by rw [seqOf_isSeq, hs]; rfl
      have hp : pairOf d d = some (xs, xs) := by cases d <;> first | (cases hs; rfl) | cases hs
      have hlx : PyData.canLayAll0 xs = true := by cases d <;> first | (cases hs; simpa [PyData.canLay0] using hl) | cases hs
      match D with
      | 0 => omega
      | D + 1 =>
        have hg : goLc [2, 3] (evT (callN Φ (n + D + 1)) .tt) (ev (callN Φ (n + D + 1)) (.call 30 (.cons (.var 2) (.cons (.var 3) (.nil))))) (zipL xs xs) [some (.imm d), some (.imm d), none, none, none] = some (xs.map fun x => .bool true, [some (.imm d), some (.imm d), none, none, none]) := by
          rw [zip_map (f := id)]
          refine goLc_all2 (by simp) (All2.maps fun x hx => ?_)
          have := same_ok D n x (lay_mem hlx hx) (by have := dep_mem hx; omega)
          exact ⟨[some (.imm d), some (.imm d), some (.imm x), some (.imm x), none], [some (.imm d), some (.imm d), some (.imm x), some (.imm x), none], [some (.imm d), some (.imm d), some (.imm x), some (.imm x), none], .imm (.bool true), by simp, by simp, by simp [this], rfl, by simp⟩
        have hb : backE [some (.imm d), some (.imm d), none, none, none] [2, 3] [some (.imm d), some (.imm d), none, none, none] = [some (.imm d), some (.imm d), none, none, none] := rfl
        have ha : fnD .all [.list (xs.map fun x => .bool true)] = some (.imm (.bool true)) := by
          have := all_ok (fun _ => true) (xs := xs)
          rw [this]; simp
        rw [show n + (D + 1) + 1 = n + D + 1 + 1 by omega, callN_code h__law_same rfl rfl]
        simp [i__law_same, hdi, isSeq_eq, hi, bool_eqD, fnD_len hs, e_lc, hp, hg, hb, ha, -fnD_all]
open PySem PySem.Spec Ev
open PySem PySem.Spec Ev
structure Sm (d : PyData) (dp wt : Nat) : Prop where
  lay : d.canLay0 = true
  shw : d.showable = true
  dct : d.hasDict = false
  dep : d.depth ≤ dp
  lvs : d.leavesShort 200 = true
  wgt : d.weight ≤ wt
structure SmA (ds : List PyData) (dp wt : Nat) : Prop where
  lay : PyData.canLayAll0 ds = true
  shw : PyData.showableAll ds = true
  dct : PyData.hasDictAll ds = false
  dep : PyData.depthAll ds ≤ dp
  lvs : PyData.leavesShortAll 200 ds = true
  wgt : PyData.weightAll ds ≤ wt
theorem SmA.nil : SmA [] 0 0 := ⟨rfl, rfl, rfl, Nat.le_refl _, rfl, Nat.le_refl _⟩
theorem SmA.cons {d : PyData} {ds : List PyData} {p q u v : Nat} (h : Sm d p u) (t : SmA ds q v) : SmA (d :: ds) (max p q) (u + 1 + v) := by
  obtain ⟨a1, a2, a3, a4, a5, a6⟩ := h
  obtain ⟨b1, b2, b3, b4, b5, b6⟩ := t
  refine ⟨by simp [PyData.canLayAll0, a1, b1], by simp [PyData.showableAll, a2, b2], by simp [PyData.hasDictAll, a3, b3], ?_, by simp [PyData.leavesShortAll, a5, b5], ?_⟩
  · simp only [PyData.depthAll]; omega
  · simp only [PyData.weightAll]; omega
theorem Sm.list {ds : List PyData} {p u : Nat} (h : SmA ds p u) : Sm (.list ds) (p + 1) u := by
  obtain ⟨a1, a2, a3, a4, a5, a6⟩ := h
  exact ⟨by simpa [PyData.canLay0] using a1, by simpa [PyData.showable] using a2, by simpa [PyData.hasDict] using a3, by simp only [PyData.depth]; omega, by simpa [PyData.leavesShort] using a5, by simpa [PyData.weight] using a6⟩
theorem Sm.tuple {ds : List PyData} {p u : Nat} (h : SmA ds p u) : Sm (.tuple ds) (p + 1) u := by
  obtain ⟨a1, a2, a3, a4, a5, a6⟩ := h
  exact ⟨by simpa [PyData.canLay0] using a1, by simpa [PyData.showable] using a2, by simpa [PyData.hasDict] using a3, by simp only [PyData.depth]; omega, by simpa [PyData.leavesShort] using a5, by simpa [PyData.weight] using a6⟩
theorem Sm.int {i : Int} (h : i.natAbs < 2 ^ 200) : Sm (.int i) 0 200 := by
  have p : (2 : Nat) ^ 200 < 10 ^ 61 := by decide
  have t := int_text_length_le10 (a := i) (k := 61) (by decide) (by omega)
  have lg := log_lt (k := 200) (by decide) h
  refine ⟨rfl, ?_, rfl, Nat.le_refl _, ?_, ?_⟩
  · simp only [PyData.showable, decide_eq_true_eq]; omega
  · have e : (PyData.int i).shown.length ≤ 200 := by
      show (Str.ofString (toString i)).length ≤ 200
      rw [ofString_length]
      omega
    simp only [PyData.leavesShort]
    exact decide_eq_true e
  · simp only [PyData.weight]
    split <;> omega
theorem Sm.mono {d : PyData} {p q u v : Nat} (h : Sm d p u) (h1 : p ≤ q) (h2 : u ≤ v) : Sm d q v := ⟨h.lay, h.shw, h.dct, Nat.le_trans h.dep h1, h.lvs, Nat.le_trans h.wgt h2⟩
theorem SmA.mono {d : List PyData} {p q u v : Nat} (h : SmA d p u) (h1 : p ≤ q) (h2 : u ≤ v) : SmA d q v := ⟨h.lay, h.shw, h.dct, Nat.le_trans h.dep h1, h.lvs, Nat.le_trans h.wgt h2⟩
end LW
set_option Elab.async false
set_option linter.all false
set_option maxRecDepth 100000
set_option maxHeartbeats 0
/-! Q1: the objects that the law draws. -/
namespace LW
open PySem PySem.Spec Ev
def isInt : PyData → Bool
  | .int _ => true
  | _ => false
/-- such an object -/
def ThD : PyData → Bool
  | .none => true
  | .bool _ => true
  | .int _ => true
  | .str x => PyData.strOk x
  | .list xs => decide (xs.length ≤ 3) && xs.all isInt
  | .tuple xs => decide (xs.length ≤ 3) && xs.all isInt
  | .dict es => decide (es.length ≤ 3) && es.all fun p => isInt p.1
theorem lc_ints {n : Nat} : ∀ (s : Nat) (ds : List PyData) (K : Nat) (l : List PyData) (w : Option Ov), ds.length = s → Spr K l → K + s ≤ 1000000 → ∃ (xs : List Int) (l' : List PyData), goLc [2] (evT (callN Φ (n + 2)) .tt) (ev (callN Φ (n + 2)) (.call 27 (.ref 0 (.cons (.lit (.int 9)) (.nil))))) ds [some (.own l), w, none] = some (xs.map PyData.int, [some (.own l'), w, none]) ∧ xs.length = s ∧ Spr (K + s) l'
  | 0, [], K, l, w, _, h, _ => ⟨[], l, goLc_nil, rfl, h⟩
  | s + 1, d :: ds, K, l, w, hs, h, hK => by
    obtain ⟨t, l1, e1, t0, t1, s1⟩ := draw_ok (n := n + 1) (m := 9) (k := 4) h (by omega) (by decide) (by decide) (by decide)
    obtain ⟨xs, l2, e2, hl, s2⟩ := lc_ints (n := n) s ds (K + 1) l1 w (by simpa using hs) s1 (by omega)
    refine ⟨t :: xs, l2, ?_, by simp [hl], Spr.mono s2 (by omega)⟩
    rw [goLc_go (ρ1 := [some (.own l), w, some (.imm d)]) (ρ2 := [some (.own l), w, some (.imm d)]) (ρ3 := [some (.own l1), w, some (.imm d)]) (o := .imm (.int t)) (by simp) (by simp) (by simp -implicitDefEqProofs [e1])]
    simp [e2]
theorem lc_pairs {n : Nat} : ∀ (s : Nat) (ds : List PyData) (K : Nat) (l : List PyData) (w : Option Ov), ds.length = s → Spr K l → K + s ≤ 1000000 → ∃ (xs : List Int) (l' : List PyData), goLc [2] (evT (callN Φ (n + 2)) .tt) (ev (callN Φ (n + 2)) (.tup (.cons (.call 27 (.ref 0 (.cons (.lit (.int 9)) (.nil)))) (.cons (.lit (.str "v")) (.nil))))) ds [some (.own l), w, none] = some (xs.map (fun x => PyData.tuple [.int x, .str "v"]), [some (.own l'), w, none]) ∧ xs.length = s ∧ Spr (K + s) l'
  | 0, [], K, l, w, _, h, _ => ⟨[], l, goLc_nil, rfl, h⟩
  | s + 1, d :: ds, K, l, w, hs, h, hK => by
    obtain ⟨t, l1, e1, t0, t1, s1⟩ := draw_ok (n := n + 1) (m := 9) (k := 4) h (by omega) (by decide) (by decide) (by decide)
    obtain ⟨xs, l2, e2, hl, s2⟩ := lc_pairs (n := n) s ds (K + 1) l1 w (by simpa using hs) s1 (by omega)
    refine ⟨t :: xs, l2, ?_, by simp [hl], Spr.mono s2 (by omega)⟩
    rw [goLc_go (ρ1 := [some (.own l), w, some (.imm d)]) (ρ2 := [some (.own l), w, some (.imm d)]) (ρ3 := [some (.own l1), w, some (.imm d)]) (o := .imm (.tuple [.int t, .str "v"])) (by simp) (by simp) (by simp -implicitDefEqProofs [e1, ll])]
    simp [e2]
theorem pairs_some : ∀ xs : List Int, pairsD (xs.map fun x => PyData.tuple [.int x, .str "v"]) = some (xs.map fun x => ((.inl x : L2.Key), PyData.str "v"))
  | [] => rfl
  | x :: xs => by
    show (pairsD (xs.map fun x => PyData.tuple [.int x, .str "v"])).map _ = _
    rw [pairs_some xs]
    rfl
theorem putD_ok {kds : List (L2.Key × PyData)} {i : Int} {d : PyData} (h : kds.all (fun p => isInt (keyD p.1)) = true) : (putD kds (.inl i) d).length ≤ kds.length + 1 ∧ (putD kds (.inl i) d).all (fun p => isInt (keyD p.1)) = true := by
  unfold putD
  split
  · refine ⟨by simp, ?_⟩
    rw [List.all_map, List.all_eq_true] at *
    intro p hp
    have := h p hp
    show isInt (keyD (if p.1 = _ then (p.1, d) else p).1) = true
    split <;> exact this
  · refine ⟨by simp, ?_⟩
    rw [List.all_append, h]
    rfl
theorem mergeD_ok : ∀ (xs : List Int) (kds : List (L2.Key × PyData)), kds.all (fun p => isInt (keyD p.1)) = true → (mergeD kds (xs.map fun x => ((.inl x : L2.Key), PyData.str "v"))).length ≤ kds.length + xs.length ∧ (mergeD kds (xs.map fun x => ((.inl x : L2.Key), PyData.str "v"))).all (fun p => isInt (keyD p.1)) = true
  | [], kds, h => ⟨by simp [mergeD], by simpa [mergeD] using h⟩
  | x :: xs, kds, h => by
    obtain ⟨a1, a2⟩ := putD_ok (i := x) (d := .str "v") h
    obtain ⟨b1, b2⟩ := mergeD_ok xs _ a2
    refine ⟨?_, b2⟩
    refine Nat.le_trans b1 ?_
    rw [List.length_cons]
    omega
theorem dict_ok (xs : List Int) (h : xs.length ≤ 3) : ∃ es, dictD (.list (xs.map fun x => PyData.tuple [.int x, .str "v"])) = some (.imm (.dict es)) ∧ ThD (.dict es) = true := by
  obtain ⟨a1, a2⟩ := mergeD_ok xs [] rfl
  refine ⟨_, by show (pairsD _).map _ = _; rw [pairs_some]; rfl, ?_⟩
  show (decide _ && _) = true
  rw [List.length_map, List.all_map, Bool.and_eq_true, decide_eq_true_eq]
  exact ⟨by simpa using Nat.le_trans a1 (by simpa using h), a2⟩
theorem ints_ok (xs : List Int) (h : xs.length ≤ 3) : ThD (.list (xs.map PyData.int)) = true ∧ ThD (.tuple (xs.map PyData.int)) = true := by
  have k : (decide ((xs.map PyData.int).length ≤ 3) && (xs.map PyData.int).all isInt) = true := by
    rw [List.length_map, List.all_map, Bool.and_eq_true, decide_eq_true_eq]
    exact ⟨h, by simp [isInt]⟩
  exact ⟨k, k⟩
theorem drawn_ok {n K : Nat} {l : List PyData} (h : Spr K l) (hK : K ≤ 100000) : ∃ (o : Ov) (l' : List PyData), callN Φ (n + 3) 46 [.own l] = some (o, [l']) ∧ ThD o.d = true ∧ Spr (K + 10) l' := by
  obtain ⟨t, l1, e1, t0, t1, s1⟩ := draw_ok (n := n + 1) (m := 9) (k := 4) h (by omega) (by decide) (by decide) (by decide)
  obtain ⟨u, l2, e2, u0, u1, s2⟩ := draw_ok (n := n + 1) (m := 4) (k := 4) s1 (by omega) (by decide) (by decide) (by decide)
  obtain ⟨c, rfl⟩ := Int.eq_ofNat_of_zero_le u0
  obtain ⟨xs, l3, e3, hl3, s3⟩ := lc_ints (n := n) c (rngD 0 (c : Nat)) (K + 2) l2 (some (.imm (.int t))) (by unfold rngD; simp) s2 (by omega)
  obtain ⟨ys, l4, e4, hl4, s4⟩ := lc_pairs (n := n) c (rngD 0 (c : Nat)) (K + 2) l2 (some (.imm (.int t))) (by unfold rngD; simp) s2 (by omega)
  obtain ⟨g1, g2⟩ := ints_ok xs (by omega)
  obtain ⟨es, e5, g3⟩ := dict_ok ys (by omega)
  have pw : powOk 10 30 = true := by decide
  have pw2 : powOk 10 29 = true := by decide
  have iin : ∀ i : Int, cmpD .isin (.int i) (.list [.int 3, .int 4]) = some ((3 == i) || (4 == i)) := fun i => by
    show inD _ _ = _
    simp [inD, flatD, PyData.eqv]
  have hr : evG (callN Φ (n + 2)) (.rng1 (.call 27 (.ref 0 (.cons (.lit (.int 4)) (.nil))))) [some (.own l1), some (.imm (.int t)), none] = some (rngD 0 (c : Nat), [some (.own l2), some (.imm (.int t)), none]) := g_rng1N (by simp [e2]) (by omega)
  have hb3 : backE [some (.own l2), some (.imm (.int t)), none] [2] [some (.own l3), some (.imm (.int t)), none] = [some (.own l3), some (.imm (.int t)), none] := rfl
  have hb4 : backE [some (.own l2), some (.imm (.int t)), none] [2] [some (.own l4), some (.imm (.int t)), none] = [some (.own l4), some (.imm (.int t)), none] := rfl
  have ir : isiD (.list (xs.map PyData.int)) ["list"] = true := rfl
  have fin : t = 0 ∨ t = 1 ∨ t = 2 ∨ t = 3 ∨ t = 4 ∨ t = 5 ∨ 6 ≤ t := by omega
  rcases fin with rfl | rfl | rfl | rfl | rfl | rfl | ht
  · obtain ⟨v, l5, e6, v0, v1, s5⟩ := draw_ok (n := n + 1) (m := 1000000000000000000000000000000) (k := 100) s1 (by omega) (by decide) (by decide) (by decide)
    refine ⟨.imm (.int (v - 10 ^ 29)), l5, ?_, rfl, Spr.mono s5 (by omega)⟩
    rw [callN_code h__law_e_drawn rfl rfl]
    simp -implicitDefEqProofs [i__law_e_drawn, e1, pw, pw2, e6]
    try rfl
  · obtain ⟨v, l5, e6, hv, s5⟩ := pick_ok (n := n) (d := .list [.str "", .str "a", .str "late", .str "two words", .str "x9"]) s1 (by omega) rfl (by simp) (by simp)
    refine ⟨.imm v, l5, ?_, ?_, Spr.mono s5 (by omega)⟩
    · rw [callN_code h__law_e_drawn rfl rfl]
      simp -implicitDefEqProofs [i__law_e_drawn, e1, e6, ll]
    · simp only [List.mem_cons, List.not_mem_nil, or_false] at hv
      rcases hv with rfl | rfl | rfl | rfl | rfl <;> first | rfl | decide +kernel
  · obtain ⟨v, l5, e6, hv, s5⟩ := pick_ok (n := n) (d := .list [.none, .bool true, .bool false, .int 0, .int 1]) s1 (by omega) rfl (by simp) (by simp)
    refine ⟨.imm v, l5, ?_, ?_, Spr.mono s5 (by omega)⟩
    · rw [callN_code h__law_e_drawn rfl rfl]
      simp -implicitDefEqProofs [i__law_e_drawn, e1, e6, ll]
    · simp only [List.mem_cons, List.not_mem_nil, or_false] at hv
      rcases hv with rfl | rfl | rfl | rfl | rfl <;> decide
  · refine ⟨.own (xs.map PyData.int), l3, ?_, g1, Spr.mono s3 (by omega)⟩
    rw [callN_code h__law_e_drawn rfl rfl]
    simp -implicitDefEqProofs [i__law_e_drawn, e1, e2, iin, e_lc, hr, hb3, e3, ll]
  · refine ⟨.own (xs.map PyData.int), l3, ?_, g1, Spr.mono s3 (by omega)⟩
    rw [callN_code h__law_e_drawn rfl rfl]
    simp -implicitDefEqProofs [i__law_e_drawn, e1, e2, iin, e_lc, hr, hb3, e3, ll]
  · refine ⟨.imm (.tuple (xs.map PyData.int)), l3, ?_, g2, Spr.mono s3 (by omega)⟩
    rw [callN_code h__law_e_drawn rfl rfl]
    simp -implicitDefEqProofs [i__law_e_drawn, e1, e2, iin, e_lc, hr, hb3, e3, ll]
  · refine ⟨.imm (.dict es), l4, ?_, g3, Spr.mono s4 (by omega)⟩
    have n0 : ¬ t = 0 := by omega
    have n1 : ¬ t = 1 := by omega
    have n2 : ¬ t = 2 := by omega
    have n3 : ¬ 3 = t := by omega
    have n4 : ¬ 4 = t := by omega
    have n5 : ¬ t = 5 := by omega
    rw [callN_code h__law_e_drawn rfl rfl]
    simp -implicitDefEqProofs [i__law_e_drawn, e1, e2, iin, e_lc, hr, hb4, e4, e5, n0, n1, n2, n3, n4, n5, ll]
end LW
set_option Elab.async false
set_option linter.all false
set_option maxRecDepth 100000
/-! EvR: repr of nested data (where the guards of the stack are known). -/
namespace Ev
open PySem PySem.Spec PyProof.Rows L2 RT RZ
/-- data whose text can be told -/
structure Shows (d : PyData) : Prop where
  lay : d.canLay0 = true
  show_ : d.showable = true
  dict : d.hasDict = false
  dep : d.depth ≤ 64
  len : d.shown.length ≤ sizeLine
section
variable {X : Cx} {A : List (Nat × Addr)} {G : Hp} {cs : CS} {pins : List (Addr × Obj)} {s : Shared} {σ : L2.St} {H F : Hp} {ρ ρ' : Env} {o : Ov}
theorem call_reprD (hg : X.A.guards = some []) (hu : X.A.units + 100 < cLine) : CallR X (.builtin "repr") (fun xs H Q => ∃ a d, xs = [.ref a] ∧ Dp X.K H (.ref a) d ∧ Shows d ∧ Q (.str d.shown) H) := by
  intro pins s σ H xs us Q I r h
  obtain ⟨a, d, rfl, hd, sh, q⟩ := h
  obtain ⟨u, rfl, rx⟩ := vals1 r
  obtain ⟨as, r1⟩ := Dp.reads I d _ u hd rx
  cases rx
  have hdep := sh.dep
  exact repr_of_reads' r1 sh.show_ (fun z => by rw [sh.dict] at z; cases z) hg (by omega) (fun b o e => e) (fun h' u tk hk => ⟨.str d.shown, H, I.kept (t' := tk) hk, ⟨u, rfl⟩, q⟩) sh.len
def showsB (d : PyData) : Bool := d.canLay0 && d.showable && !d.hasDict && decide (d.depth ≤ 64) && decide (d.shown.length ≤ ll)
theorem showsB_ok {d : PyData} (h : showsB d = true) : Shows d := by
  unfold showsB at h
  simp only [Bool.and_eq_true, Bool.not_eq_true', decide_eq_true_eq] at h
  exact ⟨h.1.1.1.1, h.1.1.1.2, h.1.1.2, h.1.2, by rw [← ll_eq]; exact h.2⟩
/-- the text of a local's list or tuple, as a primitive expression -/
def reprV (i : Nat) (ρ : Env) : Option (Ov × Env) := (getE ρ i).bind fun o => if (seqOf o.d).isSome && showsB o.d then some (.imm (.str o.d.shown), ρ) else none
theorem pk_dp {K : Frag} {v : V} {d : PyData} (h : Pk K F H v d) (s : Same F H) (c : d.canLay0 = true) : Dp K H v d := by
  rcases h with h | ⟨a, vs, xs, rfl, rfl, h1, h2⟩
  · exact dp_mono s (h.dp c)
  · exact (Dn.lst h1 (h2.mono s)).dp c
theorem dp_ref {K : Frag} {v : V} {d : PyData} (h : Dp K H v d) (hs : (seqOf d).isSome = true) : ∃ a, v = .ref a := by
  cases h <;> first | exact ⟨_, rfl⟩ | cases hs
theorem se_reprV {i : Nat} {y : Str} {p q pos : Pos} (hgd : X.A.guards = some []) (hu : X.A.units + 100 < cLine) (hm : X.mg "repr" = none) (hg : Gl X "repr" := by rfl) (hN : X.N[i]? = some y := by rfl) (hvi : Vis X.env.scope y := by first | exact Or.inl rfl | exact Or.inr (Or.inl rfl) | exact Or.inr (Or.inr rfl))
    (hd : (y == ("__debug__" : Str)) = false := by decide) (hcd : (y == ("__classdict__" : Str)) = false := by decide) (he : starEach [.Name y q] X.env = (false, eval (.Name y q) X.env) :: starEach [] X.env := by rfl) (hpl : (backTo pos (starEach [] X.env)).any (·.1) = false := by rfl) :
    SE X A G cs (.Call (.Name "repr" p) [.Name y q] [] pos) (.prim (reprV i)) := by
  refine ⟨fun pins s σ H F ρ o ρ' I R h => ?_⟩
  unfold ev reprV at h
  obtain ⟨o1, e1, h⟩ := Option.bind_eq_some_iff.mp h
  split at h
  · rename_i hc
    cases h
    rw [Bool.and_eq_true] at hc
    have sh := showsB_ok hc.2
    obtain ⟨v, h0, pk⟩ := R.pk e1
    have dp := pk_dp pk R.sub sh.lay
    obtain ⟨a, rfl⟩ := dp_ref dp hc.1
    exact (pe_callB (call_reprD hgd hu) hg hm (by decide +kernel) (pa_cons (pe_var hN hvi hd hcd) pa_nil he) (by decide) (by decide) he hpl).run pins s σ H _ I ⟨_, h0, a, _, rfl, dp, sh, R.post (.str _)⟩
  · cases h
end
end Ev
set_option Elab.async false
set_option linter.all false
set_option maxRecDepth 100000
/-! EvG: defs whose promise wants that no repr is under way around them (the guards of the stack are known). -/
namespace Ev
open PySem PySem.Spec PyProof.Rows L2 RT RZ
structure FnOkG (P : Program) (w : World) (K : PySem.W.Frag) (mg : Str → Option Value) (base : Heap) (CX : CXT) (k : Nat) (f : Addr) (fd : FuncData) (ps : List Str) (sp : Sp) : Prop where
  len : ∀ vs H Q E, sp vs H Q E → vs.length = ps.length
  run : ∀ (A : Around) (outer : List PySem.Env) (s : Shared) (H : Hp) (args : Args) (us : List Value) (vs : List V) (Q : VK) (E : XK), Room k A → A.guards = some [] → Env0 P w K mg base A outer s H → BindsTo s fd args (ps.zip us) → Vals vs us → sp vs H Q E →
    codeAny (model P w) A (.call (.ref f) args) (CR CX outer P w H s Q E) s
section
variable {P : Program} {w : World} {K : PySem.W.Frag} {mg : Str → Option Value} {base : Heap} {CX : CXT} {k : Nat} {x qual : Str} {params : Arguments} {body : List Stmt} {scope : Scope} {dvs : List V} {kws : List (Str × V)} {f : Addr} {fd : FuncData} {N ps : List Str} {sp : Sp}
theorem fn_okG (F : FunD K x qual params body scope dvs kws f fd) (S : FnScope N ps scope) (len : ∀ vs H Q E, sp vs H Q E → vs.length = ps.length)
    (hbody : ∀ (cdv : Value) (A : Around) (outer : List PySem.Env) (s : Shared) (H : Hp) (vs : List V) (Q : VK) (E : XK), Room k (A.deeper (envOfC qual scope s.heap.objs.size f cdv)) → A.guards = some [] → fd.code = cdv → sp vs H Q E →
      ∃ t, PSs (cxOf CX P w K mg base N qual scope f cdv A outer s H E) body t ∧ t { nx := fun _ H' => Q .non H', rt := Q } (L2.start N vs) H) : FnOkG P w K mg base CX (k + 1) f fd ps sp := by
  obtain ⟨oc, od, dV, kV, doc, pm, an, cdv, ct, osl, rfl, lk, hcd, _, _⟩ := F.ex
  exact ⟨len, fun A outer s H args us vs Q E hr hg e0 hb r h => LamX.run_ofS lk hcd S hr e0 hb r (len _ _ _ _ h) fun hr' => hbody cdv A outer s H vs Q E hr' hg rfl h⟩
end
section
variable {X : Cx} {CX : CXT} {k : Nat} {f : Addr} {fd : FuncData} {ps : List Str} {sp : Sp} {dvs : List V} {ds : List Value} {E : XK} {x : Str} {p pos : Pos} {e : Expr} {es : List Expr} {t : TA}
theorem pe_callG (F : FnOkG X.prog X.w X.K X.mg X.base CX k f fd ps sp) (hgd : X.A.guards = some []) (hr : Room k X.A) (hg : Gl X x) (hm : X.mg x = some (.ref f)) (hk : PySem.W.keepIn X.K (.ref f) = true) (hb : L2.Binds X.K fd ps ds) (hd : Vals dvs ds) (hx : Passes CX X E)
    (ha : PA X (e :: es) t) (hdb : (x == ("__debug__" : Str)) = false := by decide) (he : starEach (e :: es) X.env = (false, eval e X.env) :: starEach es X.env := by rfl) (hpl : (backTo pos (starEach es X.env)).any (·.1) = false := by rfl) :
    PE X (.Call (.Name x p) (e :: es) [] pos) (tCall sp dvs E t) := by
  refine ⟨fun pins s σ H Q I h => ?_⟩
  refine wpAny_Call_Name_kw (ld_glob I hg hm ?_ hdb)
  refine PySem.W.callWith_K (h₀ := X.base) I.ok.mod.kin hk (thn (ha.run pos pins s σ H _ I h) fun us s1 ⟨vs, H1, I1, r, q⟩ => ⟨I1.kIn, ?_⟩) he hpl
  have r2 : Vals (vs ++ dvs) (us ++ ds) := r.append hd
  have hl : (us ++ ds).length = ps.length := by rw [← r2.length]; exact F.len _ _ _ _ q
  refine wpAny_call (codeAny_mono (F.run X.A X.stack s1 H1 ⟨us, []⟩ (us ++ ds) (vs ++ dvs) Q E hr hgd I1.env0 (hb s1 us I1.kIn hl) r2 q) fun r s' hq => ?_)
  cases r with
  | error e => exact hx pins σ H1 s1 e s' I1 hq
  | ok fl =>
    cases fl with
    | ret u => exact I1.after hq
    | next => exact False.elim hq
    | brk => exact False.elim hq
    | cont => exact False.elim hq
end
end Ev
set_option Elab.async false
set_option linter.all false
set_option maxRecDepth 100000
/-! S2: statements of the second level: tables of code objects may change (lambdas are made), what the def may not change is chosen anew. -/
namespace Ev
open PySem PySem.Spec PyProof.Rows L2 RT RZ LamX
/-- no tables -/
def NoTb (F : Hp) : Prop := ∀ b ps, F b ≠ some (.tbl ps)
structure R2 (K : Frag) (T : List (Addr × Str)) (A : List (Nat × Addr)) (G0 H : Hp) (σ : L2.St) (ρ : Env) : Prop where
  ex : ∃ G F, Same G0 G ∧ Tabs T G ∧ Rel K A G F H σ ρ
def End2 (K : Frag) (T : List (Addr × Str)) (A : List (Nat × Addr)) (G0 : Hp) (out : Out) (ρ : Env) : Ends where
  nx := fun σ H => out = .next ∧ R2 K T A G0 H σ ρ
  rt := fun v H => ∃ o σ, out = .ret o ∧ R2 K T A G0 H σ ρ ∧ (∀ b, o = .imm (.bool b) → v = .bl b)
  bk := fun σ H => out = .brk ∧ R2 K T A G0 H σ ρ
  ct := fun σ H => out = .cont ∧ R2 K T A G0 H σ ρ
section
variable {X : Cx} {T : List (Addr × Str)} {A : List (Nat × Addr)} {G G0 : Hp} {cs : CS} {pins : List (Addr × Obj)} {s : Shared} {σ : L2.St} {H F : Hp} {ρ ρ' : Env} {o : Ov} {tg : Expr}
theorem end2_of {K : Frag} {out : Out} (g : Same G0 G) (t : Tabs T G) : EndLe (EndS K A G F out ρ) (End2 K T A G0 out ρ) where
  nx := fun _ _ ⟨e, F', x, R⟩ => ⟨e, G, F', g, t, R⟩
  rt := fun v H ⟨o, σ, F', e, x, R, d⟩ => ⟨o, σ, e, ⟨G, F', g, t, R⟩, fun b z => by
    subst z
    cases d
    rfl⟩
  bk := fun _ _ ⟨e, F', x, R⟩ => ⟨e, G, F', g, t, R⟩
  ct := fun _ _ ⟨e, F', x, R⟩ => ⟨e, G, F', g, t, R⟩
structure S2 (X : Cx) (T : List (Addr × Str)) (A : List (Nat × Addr)) (G0 : Hp) (cs : CS) (st : Stmt) (is : IS) : Prop where
  run : ∀ (pins : List (Addr × Obj)) (s : Shared) (σ : L2.St) (H : Hp) (ρ : Env) (out : Out) (ρ' : Env), Inv X pins σ H s → R2 X.K T A G0 H σ ρ → evS cs is ρ = some (out, ρ') →
    wpAny (model X.prog X.w) X.A (exec st X.env) (L2.SP X pins (End2 X.K T A G0 out ρ')) X.xe s
structure SB2 (X : Cx) (T : List (Addr × Str)) (A : List (Nat × Addr)) (G0 : Hp) (cs : CS) (st : List Stmt) (is : ISs) : Prop where
  run : ∀ (pins : List (Addr × Obj)) (s : Shared) (σ : L2.St) (H : Hp) (ρ : Env) (out : Out) (ρ' : Env), Inv X pins σ H s → R2 X.K T A G0 H σ ρ → evSs cs is ρ = some (out, ρ') →
    wpAny (model X.prog X.w) X.A (execs st X.env) (L2.SP X pins (End2 X.K T A G0 out ρ')) X.xe s
theorem s2_of {st : Stmt} {is : IS} (h : ∀ G, SS X A G cs st is) : S2 X T A G0 cs st is :=
  ⟨fun pins s σ H ρ out ρ' I ⟨G, F, g, t, R⟩ e => thn ((h G).run pins s σ H F ρ out ρ' I R e) fun _ _ q => sp_le q (end2_of g t)⟩
theorem sb2_of {st : List Stmt} {is : ISs} (h : ∀ G, SB' X A G cs st is) : SB2 X T A G0 cs st is :=
  ⟨fun pins s σ H ρ out ρ' I ⟨G, F, g, t, R⟩ e => thn ((h G).run pins s σ H F ρ out ρ' I R e) fun _ _ q => sp_le q (end2_of g t)⟩
theorem sb2_nil : SB2 X T A G0 cs [] .nil := sb2_of fun _ => sb_nil
theorem sb2_cons {st : Stmt} {sts : List Stmt} {is : IS} {iss : ISs} (h1 : S2 X T A G0 cs st is) (h2 : SB2 X T A G0 cs sts iss) : SB2 X T A G0 cs (st :: sts) (.cons is iss) := by
  refine ⟨fun pins s σ H ρ out ρ' I R e => ?_⟩
  unfold evSs at e
  obtain ⟨⟨o1, ρ1⟩, e1, e⟩ := Option.bind_eq_some_iff.mp e
  refine wpAny_execs_cons (thn (h1.run pins s σ H ρ o1 ρ1 I R e1) fun f s1 q => ?_)
  cases f with
  | next =>
    obtain ⟨σ1, H1, I1, z, R1⟩ := q
    cases z
    exact h2.run pins s1 σ1 H1 ρ1 out ρ' I1 R1 e
  | brk =>
    obtain ⟨σ1, H1, I1, z, R1⟩ := q
    cases z; cases e
    exact ⟨σ1, H1, I1, rfl, R1⟩
  | cont =>
    obtain ⟨σ1, H1, I1, z, R1⟩ := q
    cases z; cases e
    exact ⟨σ1, H1, I1, rfl, R1⟩
  | ret u =>
    obtain ⟨v, σ1, H1, I1, r, o, σ2, z, q⟩ := q
    cases z; cases e
    exact ⟨v, σ1, H1, I1, r, o, σ2, rfl, q⟩
theorem s2_if {c : Expr} {a b : List Stmt} {it : IT} {ia ib : ISs} {pos : Pos} (hc : ∀ G, ST X A G cs c it) (ha : SB2 X T A G0 cs a ia) (hb : SB2 X T A G0 cs b ib) : S2 X T A G0 cs (.If c a b pos) (.ite it ia ib) := by
  refine ⟨fun pins s σ H ρ out ρ' I ⟨G, F, g, t, R⟩ e => ?_⟩
  unfold evS at e
  obtain ⟨⟨k, ρ1⟩, e1, e⟩ := Option.bind_eq_some_iff.mp e
  refine wpAny_If (thn ((hc G).run pins s σ H F ρ k ρ1 I R e1) fun d s1 ⟨H1, I1, q, F1, x1, R1⟩ => ?_)
  subst q
  cases d with
  | true => exact ha.run pins s1 σ H1 ρ1 out ρ' I1 ⟨G, F1, g, t, R1⟩ e
  | false => exact hb.run pins s1 σ H1 ρ1 out ρ' I1 ⟨G, F1, g, t, R1⟩ e
/-- the tables left out -/
def untb (F : Hp) : Hp := fun b => match F b with
  | some (.tbl _) => none
  | o => o
theorem untb_some {F : Hp} {b : Addr} {x : HO} (h : F b = some x) (n : ∀ ps, x ≠ .tbl ps) : untb F b = some x := by
  unfold untb
  rw [h]
  cases x <;> first | rfl | exact absurd rfl (n _)
theorem untb_le {F : Hp} : Same (untb F) F := fun b x h => by
  unfold untb at h
  split at h
  · cases h
  · exact h
theorem untb_no {F : Hp} : NoTb (untb F) := fun b ps h => by
  unfold untb at h
  split at h
  · cases h
  · rename_i z
    exact z ps h
/-- b is held by a slot as its own list -/
def Held (σ : L2.St) (ρ : Env) (b : Addr) : Prop := ∃ i xs, getE ρ i = some (.own xs) ∧ σ[i]? = some (some (.ref b))
open Classical in
/-- all but the own lists -/
noncomputable def full (H : Hp) (σ : L2.St) (ρ : Env) : Hp := fun b => if Held σ ρ b then none else H b
theorem full_held {b : Addr} (h : Held σ ρ b) : full H σ ρ b = none := by
  unfold full
  rw [if_pos h]
theorem full_not {b : Addr} (h : ¬ Held σ ρ b) : full H σ ρ b = H b := by
  unfold full
  rw [if_neg h]
theorem full_le : Same (full H σ ρ) H := fun b x h => by
  by_cases z : Held σ ρ b
  · rw [full_held z] at h; cases h
  · rw [full_not z] at h; exact h
theorem Rel.notHeld {K : Frag} (R : Rel K A G F H σ ρ) {b : Addr} (h : G b ≠ none ∨ F b ≠ none) : ¬ Held σ ρ b := fun ⟨i, xs, h1, h2⟩ => by
  obtain ⟨a, h3, g, f, _⟩ := R.own i xs h1
  rw [h2] at h3; cases h3
  rcases h with h | h
  · exact h g
  · exact h f
theorem Rel.leFull {K : Frag} (R : Rel K A G F H σ ρ) : Same G (full H σ ρ) := fun b x h => by
  rw [full_not (R.notHeld (.inl (by rw [h]; simp)))]
  exact R.frm b x h
theorem Rel.leFullF {K : Frag} (R : Rel K A G F H σ ρ) : Same F (full H σ ρ) := fun b x h => by
  rw [full_not (R.notHeld (.inr (by rw [h]; simp)))]
  exact R.sub b x h
/-- what may not change: chosen anew -/
theorem Rel.reG {K : Frag} {G' : Hp} (R : Rel K A G F H σ ρ) (s : Same G' (full H σ ρ)) : Rel K A G' F H σ ρ := by
  refine ⟨s.trans full_le, R.sub, R.imm, fun i xs h => ?_, R.dis, R.pin, R.len⟩
  obtain ⟨a, h1, g, f, q⟩ := R.own i xs h
  refine ⟨a, h1, ?_, f, q⟩
  cases e : G' a with
  | none => rfl
  | some x =>
    have := s _ _ e
    rw [full_held ⟨i, xs, h, h1⟩] at this
    cases this
def joinH (F D : Hp) : Hp := fun b => match F b with
  | some o => some o
  | none => D b
theorem join_l {F D : Hp} {b : Addr} {x : HO} (h : F b = some x) : joinH F D b = some x := by
  unfold joinH
  rw [h]
theorem join_r {F D : Hp} {b : Addr} (h : F b = none) : joinH F D b = D b := by
  unfold joinH
  rw [h]
/-- more data: what may not change is data, too -/
theorem Rel.reF {K : Frag} {D : Hp} (R : Rel K A G F H σ ρ) (s : Same D G) : ∃ F', Rel K A G F' H σ ρ ∧ Same F F' ∧ Same D F' := by
  refine ⟨joinH F D, R.wide (fun b x h => join_l h) (fun b x h => ?_) (fun i xs a h1 h2 => ?_), fun b x h => join_l h, fun b x h => ?_⟩
  · cases e : F b with
    | some o =>
      rw [join_l e] at h
      cases h
      exact R.sub _ _ e
    | none =>
      rw [join_r e] at h
      exact R.frm _ _ (s _ _ h)
  · obtain ⟨a', h3, g, f, _⟩ := R.own i xs h1
    rw [h2] at h3; cases h3
    rw [join_r f]
    cases e : D a with
    | none => rfl
    | some o => rw [s _ _ e] at g; cases g
  · cases e : F b with
    | some o =>
      have h1 := R.sub _ _ e
      have h2 := R.frm _ _ (s _ _ h)
      rw [h1] at h2
      rw [join_l e]
      exact h2
    | none => rw [join_r e]; exact h
mutual
theorem Dn.monoN {K : Frag} {F F' : Hp} (s : SameN F F') : ∀ {v : V} {d : PyData}, Dn K F v d → Dn K F' v d
  | _, _, .non => .non
  | _, _, .bl b => .bl b
  | _, _, .int i => .int i
  | _, _, .str x => .str x
  | _, _, .lst h q => .lst (s.lst h) (DnA.monoN s q)
  | _, _, .tup h q => .tup (s.sqT h) (DnA.monoN s q)
  | _, _, .dct h q e => .dct (s _ _ h (fun _ z => by cases z)) (DnK.monoN s q) e
theorem DnA.monoN {K : Frag} {F F' : Hp} (s : SameN F F') : ∀ {vs : List V} {ds : List PyData}, DnA K F vs ds → DnA K F' vs ds
  | _, _, .nil => .nil
  | _, _, .cons h q => .cons (Dn.monoN s h) (DnA.monoN s q)
theorem DnK.monoN {K : Frag} {F F' : Hp} (s : SameN F F') : ∀ {vs : List (Key × V)} {ds : List (Key × PyData)}, DnK K F vs ds → DnK K F' vs ds
  | _, _, .nil => .nil
  | _, _, .cons h q => .cons (Dn.monoN s h) (DnK.monoN s q)
end
theorem Yl.monoN {K : Frag} {F' H' : Hp} {x : V} {d : PyData} (s : SameN F F') (y : Yl K F H x H' d) : Yl K F' H x H' d := by
  rcases y with ⟨e, h⟩ | ⟨p, vs, es, e1, hp, e2, e3, h⟩
  · exact .inl ⟨e, h.monoN s⟩
  · exact .inr ⟨p, vs, es, e1, hp, e2, e3, h.monoN s⟩
def tEvSs2 (K : Frag) (T : List (Addr × Str)) (A : List (Nat × Addr)) (G0 : Hp) (cs : CS) (is : ISs) : TS := fun D σ H => ∃ ρ out ρ', R2 K T A G0 H σ ρ ∧ evSs cs is ρ = some (out, ρ') ∧ EndLe (End2 K T A G0 out ρ') D
theorem SB2.pss {st : List Stmt} {is : ISs} (h : SB2 X T A G0 cs st is) : PSs X st (tEvSs2 X.K T A G0 cs is) := ⟨fun pins s σ H D I ⟨ρ, out, ρ', R, e, l⟩ => thn (h.run pins s σ H ρ out ρ' I R e) fun _ _ q => sp_le q l⟩
def tLoop2 (K : Frag) (T : List (Addr × Str)) (A : List (Nat × Addr)) (cs : CS) (is : ISs) : TS := fun D σ H => ∃ G0, NoTb G0 ∧ tEvSs2 K T A G0 cs is D σ H
theorem s2_for {iter : Expr} {body : List Stmt} {is : List Nat} {ig : IG} {ib : ISs} {pos : Pos} (hn : NoTb G0) (hp : PassesOwn (model X.prog X.w) X.A X.env X.xe) (hc : X.calm = true) (hi : ∀ G, SG X A G cs tg iter ig) (hg : SP' X A tg is) (hb : ∀ G0, NoTb G0 → SB2 X T A G0 cs body ib)
    (hs : ∀ x, foldedSetIterable iter X.env x = pure x := by intro _; rfl) : S2 X T A G0 cs (.For tg iter body [] pos) (.loop is ig ib) := by
  refine ⟨fun pins s σ H ρ out ρ' I ⟨G, F, g0, t0, R⟩ e => ?_⟩
  unfold evS at e
  obtain ⟨⟨ds, ρ1⟩, eG, e⟩ := Option.bind_eq_some_iff.mp e
  refine (ps_for hp hc (hi G) hg.pg (tb := tLoop2 X.K T A cs ib) ⟨fun pins s σ H D I ⟨G0, n, h⟩ => (hb G0 n).pss.run pins s σ H D I h⟩ hs).run pins s σ H _ I ⟨F, ρ, ds, ρ1, R, eG, fun J F1 H1 x1 R1 feed _ => ?_⟩
  -- what the loop may not change
  have D0 : Same (untb (full H1 σ ρ1)) (full H1 σ ρ1) := untb_le
  have gD : Same G0 (untb (full H1 σ ρ1)) := fun b x h => untb_some (R1.leFull _ _ (g0 _ _ h)) fun ps z => by subst z; exact hn b ps h
  have fD : SameN F1 (untb (full H1 σ ρ1)) := fun b x h n => untb_some (R1.leFullF _ _ h) n
  have R1' : R2 X.K T A (untb (full H1 σ ρ1)) H1 σ ρ1 := ⟨full H1 σ ρ1, F1, D0, t0.ext R1.leFull, R1.reG (.refl _)⟩
  have r2 : ∀ {H' : Hp} {σ' : L2.St} {ρ' : Env}, R2 X.K T A (untb (full H1 σ ρ1)) H' σ' ρ' → R2 X.K T A G0 H' σ' ρ' := fun ⟨⟨G, F, g, t, R⟩⟩ => ⟨G, F, gD.trans g, t, R⟩
  refine ⟨fun i m σq Hq => m + i = ds.length ∧ ∃ ρ2, R2 X.K T A (untb (full H1 σ ρ1)) Hq σq ρ2 ∧ goFor is (evSs cs ib) (ds.drop i) ρ2 = some (out, ρ'), ⟨ds.length, by simp, ρ1, R1', by simpa using e⟩, ?_⟩
  rintro i m σ2 H2 ⟨hm, ρ2, R2', eR⟩
  obtain ⟨G2, F2, g2, t2, R2⟩ := id R2'
  have hsub : SameN F1 H2 := fun b x h n => R2.frm _ _ (g2 _ _ (fD _ _ h n))
  by_cases hi : i < ds.length
  · refine .inr ⟨feed.go i H2 hsub hi, _, fun σ' H' hW => ⟨m - 1, by omega, hW⟩, fun x H3 y => ?_⟩
    obtain ⟨F3, R3, _, d3⟩ := R2.reF g2
    have yl := (feed.yld i H2 x H3 hsub y _ (List.getElem?_eq_getElem hi)).monoN (F' := F3) fun b x h n => d3 _ _ (fD _ _ h n)
    rw [List.drop_eq_getElem_cons hi] at eR
    unfold goFor at eR
    obtain ⟨ρ3, eB, eR⟩ := Option.bind_eq_some_iff.mp eR
    obtain ⟨⟨o1, ρ4⟩, eS, eR⟩ := Option.bind_eq_some_iff.mp eR
    obtain ⟨F4, x4, R4, dn4, s4⟩ := yl_ok R3 yl
    refine ⟨G2, F4, ρ2, _, ρ3, R4, dn4, eB, fun σ3 R5 _ _ => ⟨_, untb_no, ρ3, o1, ρ4, ⟨G2, F4, g2, t2, R5⟩, eS, fun σ' H' ⟨z, R6⟩ => ?_, fun v H' ⟨o, σ7, z, q7, q⟩ => ?_, fun σ' H' ⟨z, R6⟩ => ?_, fun σ' H' ⟨z, R6⟩ => ?_⟩⟩
    · cases z
      exact ⟨by omega, ρ4, R6, eR⟩
    · cases z
      cases eR
      exact ⟨o, σ7, rfl, r2 q7, q⟩
    · cases z
      cases eR
      exact ⟨rfl, r2 R6⟩
    · cases z
      exact ⟨by omega, ρ4, R6, eR⟩
  · rw [List.drop_eq_nil_of_le (by omega)] at eR
    cases eR
    exact .inl ⟨feed.stop i H2 hsub (by omega), rfl, r2 R2'⟩
end
end Ev
set_option Elab.async false
set_option linter.all false
set_option maxRecDepth 100000
/-! S2F: a def of the second level keeps its promise. -/
namespace Ev
open PySem PySem.Spec PyProof.Rows L2 RT RZ LamX
theorem tabs_lst {T : List (Addr × Str)} {H H' : Hp} (t : Tabs T H) (e : ∀ b o, H b = some o → (∀ vs, o ≠ .lst vs) → H' b = some o) : Tabs T H' := fun p hp => by
  obtain ⟨ps, h1, h2, h3⟩ := t p hp
  refine ⟨ps, e _ _ h1 (fun _ z => by cases z), h2, fun pos cv hc => ?_⟩
  obtain ⟨c, e1, e2⟩ := h3 pos cv hc
  exact ⟨c, e1, e _ _ e2 (fun _ z => by unfold CodeO at z; cases z)⟩
/-- what a def's body tells -/
def runD (cs : CS) (d : FD) (os : List Ov) : Option (Ov × List (List PyData)) := if os.length = d.np ∧ owns os = d.io then (evSs cs d.body (start0 d os)).bind fun p => match p with
    | (.ret o, ρ) => (outs d.io ρ).map fun l => (o, l)
    | _ => none
  else none
/-- True or False; all but the handed lists and the tables stays -/
def spB2 (K : Frag) (T : List (Addr × Str)) (g : List Ov → Option (Ov × List (List PyData))) (np : Nat) : Sp := fun vs H Q _ => ∃ F os b l, Tabs T H ∧ Same F H ∧ ArgO K F H vs os ∧ (ows vs os).Nodup ∧ vs.length = np ∧ g os = some (.imm (.bool b), l) ∧
  ∀ H' F', (∀ a x, H a = some x → a ∉ ows vs os → (∀ ps, x ≠ .tbl ps) → H' a = some x) → Tabs T H' → Same F' H' → OutL K F' H' (ows vs os) l → Q (.bl b) H'
theorem ows_lst {K : Frag} {F H : Hp} : ∀ {vs : List V} {os : List Ov}, ArgO K F H vs os → ∀ a ∈ ows vs os, ∃ ws, H a = some (.lst ws)
  | _, _, .nil, a, h => by cases h
  | v :: vs, _ :: os, .imm (d := d) _ q, a, h => by
    have e : ows (v :: vs) (.imm d :: os) = ows vs os := by cases v <;> rfl
    rw [e] at h
    exact ows_lst q a h
  | _, _, .own _ h1 _ q, a, h => by
    rcases List.mem_cons.mp h with rfl | h
    · exact ⟨_, h1⟩
    · exact ows_lst q a h
section
variable {P : Program} {w : World} {K : Frag} {mg : Str → Option Value} {base : Heap}
theorem fn2_step {cs : CS} {T : List (Addr × Str)} {n : Nat} {d : FD} {N ps : List Str} {x qual : Str} {params : Arguments} {body : List Stmt} {scope : Scope} {f : Addr} {fd : FuncData} (Fu : FunD K x qual params body scope [] [] f fd) (S : FnScope N ps scope) (hnp : ps.length = d.np) (hns : N.length = d.ns)
    (hb : ∀ (cdv : Value) (A : Around) (outer : List PySem.Env) (s : Shared) (H : Hp) (E : XK) (G0 : Hp) (Ap : List (Nat × Addr)), Room n (A.deeper (envOfC qual scope s.heap.objs.size f cdv)) → A.guards = some [] → fd.code = cdv → NoTb G0 → (∀ p ∈ Ap, p.1 ∈ d.io) →
      SB2 (cxOf CX0 P w K mg base N qual scope f cdv A outer s H E).nox T Ap G0 cs body d.body) : FnOkG P w K mg base CX0 (n + 1) f fd ps (spB2 K T (runD cs d) ps.length) := by
  refine fn_okG Fu S (fun vs H Q E h => ?_) (fun cdv A outer s H vs Q E hr hgd hcd h => ?_)
  · obtain ⟨_, _, _, _, _, _, _, _, h, _⟩ := h
    exact h
  · obtain ⟨F, os, bb, l, hT, hF, hA, nd, hlen, e, k⟩ := h
    unfold runD at e
    split at e
    · rename_i hc
      obtain ⟨⟨out, ρ'⟩, e1, e2⟩ := Option.bind_eq_some_iff.mp e
      have hvo := hA.len
      have ra0 : RefsAt (L2.start N vs) (owns os) (ows vs os) := refs_own hA fun i v hi => by rw [Nat.zero_add]; exact start_get hi
      let G : Hp := fun b => if b ∈ ows vs os then none else H b
      have hG : ∀ b, b ∉ ows vs os → G b = H b := fun b hb => if_neg hb
      have hGo : ∀ b, b ∈ ows vs os → G b = none := fun b hb => if_pos hb
      -- the relation at the entry
      have R : Rel K ((owns os).zip (ows vs os)) G F H (L2.start N vs) (start0 d os) := by
        refine ⟨fun b x q => ?_, hF, fun i d' q => ?_, fun i xs q => ?_, fun i j xs ys a q1 q2 z1 z2 => ?_, fun p hp => ?_, ?_⟩
        · by_cases hb : b ∈ ows vs os
          · rw [hGo b hb] at q; cases q
          · rw [hG b hb] at q; exact q
        · rw [getE_start] at q
          obtain ⟨v, h1, h2⟩ := hA.get q
          exact ⟨v, start_get h1, h2⟩
        · rw [getE_start] at q
          obtain ⟨v, h1, a, ws, rfl, h2, h3, h4⟩ := hA.get q
          refine ⟨a, start_get h1, hGo a ?_, h2, ws, h3, h4⟩
          obtain ⟨b, hb, hs⟩ := (refs_mem ra0).1 i (by have := ownsF_mem (k := 0) q; rw [Nat.zero_add] at this; exact this)
          rw [start_get h1] at hs
          cases hs
          exact hb
        · rw [getE_start] at q1 q2
          have m1 : i ∈ owns os := by have := ownsF_mem (k := 0) q1; rw [Nat.zero_add] at this; exact this
          have m2 : j ∈ owns os := by have := ownsF_mem (k := 0) q2; rw [Nat.zero_add] at this; exact this
          exact refs_inj ra0 nd i m1 j m2 a z1 z2
        · have : ∀ {xs : List Nat} {as : List Addr}, RefsAt (L2.start N vs) xs as → ∀ p ∈ xs.zip as, (L2.start N vs)[p.1]? = some (some (.ref p.2)) := by
            intro xs as h
            induction h with
            | nil => intro p hp; cases hp
            | cons h1 _ ih =>
              intro p hp
              rw [List.zip_cons_cons] at hp
              rcases List.mem_cons.mp hp with rfl | hp
              · exact h1
              · exact ih p hp
          exact this ra0 p hp
        · unfold start0 L2.start
          simp only [List.length_append, List.length_map, List.length_replicate, hvo, hns]
      have hio : ∀ p ∈ (owns os).zip (ows vs os), p.1 ∈ d.io := fun p hp => by
        rw [← hc.2]
        exact (List.of_mem_zip hp).1
      have tG : Tabs T G := tabs_lst hT fun b o h n => by
        rw [hG b fun hm => ?_]
        · exact h
        · obtain ⟨ws, hw⟩ := ows_lst hA b hm
          rw [h] at hw
          cases hw
          exact n _ rfl
      refine ⟨_, ((hb cdv A outer s H E (untb G) _ hr hgd hcd untb_no hio).pss).nox, start0 d os, out, ρ', ⟨G, F, untb_le, tG, R⟩, e1, ?_⟩
      have fin : ∀ H', Same (untb G) H' → ∀ a x, H a = some x → a ∉ ows vs os → (∀ ps, x ≠ .tbl ps) → H' a = some x := fun H' s a x h m n => s _ _ (untb_some (by rw [hG a m]; exact h) n)
      refine ⟨fun σ' H' ⟨z, _⟩ => ?_, fun v H' ⟨o', σ', z, q1, q3⟩ => ?_, fun σ' H' ⟨z, _⟩ => ?_, fun σ' H' ⟨z, _⟩ => ?_⟩
      · cases z; cases e2
      · cases z
        obtain ⟨l', eo, e3⟩ := Option.map_eq_some_iff.mp e2
        cases e3
        rw [q3 bb rfl]
        obtain ⟨G', F', g', t', R'⟩ := q1
        have ra : RefsAt σ' (owns os) (ows vs os) := refs_zip ra0 R'.pin
        exact k H' F' (fin H' (g'.trans R'.frm)) (t'.ext R'.frm) R'.sub (out_ok ra R' (by rw [hc.2]; exact eo))
      · cases z; cases e2
      · cases z; cases e2
    · cases e
end
end Ev
set_option Elab.async false
set_option linter.all false
set_option maxRecDepth 100000
set_option maxHeartbeats 2000000
/-! LM1: a lambda, with or without defaults, as a thing of the heap: made, called. -/
namespace LamD
open PySem PySem.Spec PyProof.Rows L2 LamX
/-- a lambda's words, the cells that it captured, its code object, its defaults' tuple -/
structure LF where
  qual : Str
  params : Arguments
  body : Expr
  scope : Scope
  cl : List (Str × Addr)
  c : Addr
  dT : Option Addr
def dV : Option Addr → Value
  | none => .none
  | some T => .ref T
abbrev LF.fd (L : LF) (doc pm ctv : Value) : FuncData := PySem.W.kdv_fn "<lambda>" L.qual L.params (.expr L.body) L.scope L.cl (dV L.dT) doc pm (.ref L.c) ctv
/-- the object at f is the lambda L -/
def LamO (f : Addr) (L : LF) : HO := .ext fun h => ∃ (od : Option Addr) (sl : Array (Option Value)) (doc pm ctv : Value), h.get? f = some (⟨.type "function", od, .func (L.fd doc pm ctv), sl⟩ : Obj)
theorem lamO_ne {f : Addr} {L : LF} (ps : Array Value) : LamO f L ≠ .tbl ps := fun z => by
  unfold LamO at z
  cases z
theorem lamO_at {P : Program} {w : World} {H : Hp} {h : Heap} {f : Addr} {L : LF} (hok : HOk P w H h) (e : H f = some (LamO f L)) : ∃ (od : Option Addr) (sl : Array (Option Value)) (doc pm ctv : Value), h.get? f = some (⟨.type "function", od, .func (L.fd doc pm ctv), sl⟩ : Obj) := by
  obtain ⟨x, _, _⟩ := hok f _ e
  exact x
section
variable {X : Cx} {pins : List (Addr × Obj)} {σ : L2.St} {H : Hp} {s : Shared}
theorem inv_lam {L : LF} {o : Obj} {t' : Nat} {doc pm ctv : Value} (I : Inv X pins σ H s) (ho : o = { cls := .type "function", data := .func (L.fd doc pm ctv) }) :
    Inv X pins σ (upd H s.heap.objs.size (LamO s.heap.objs.size L)) { s with heap := s.heap.push o, toks := t' } := by
  subst ho
  refine I.laid (a := s.heap.objs.size) (fun b u e => Heap.get?_push_of_some _ e) (Nat.le_refl _) ?_
  have e : (s.heap.push ({ cls := .type "function", data := .func (L.fd doc pm ctv) } : Obj)).get? s.heap.objs.size = some ({ cls := .type "function", data := .func (L.fd doc pm ctv) } : Obj) := Heap.get?_push_size _ rfl
  exact ⟨⟨_, _, doc, pm, ctv, e⟩, ⟨_, e⟩, fun h1 h2 ⟨od, sl, d, p, t, z⟩ st => ⟨od, sl, d, p, t, st _ z⟩⟩
/-- the lambda's object is made: its code object is new, or found in the table -/
theorem lam_tail {T : List (Addr × Str)} {c P : Addr} {params : Arguments} {body : Expr} {scope : Scope} {pos : Pos} {dT : Option Addr} {E : Value → Shared → Prop} {Q : Value → Shared → Prop} (I : Inv X pins σ H s) (TB : TabB X.base X.mg c P) (hcode : X.env.code = .ref c)
    (hm : (P, X.env.qual ++ "<lambda>") ∈ T) (hu : ∀ p ∈ T, p.1 = P → p.2 = X.env.qual ++ "<lambda>") (hT : Tabs T H) (hfree : ∀ y ∈ scope.names, y.2 = .free → ∃ c, X.env.cells.lookup y.1 = some c)
    (h : ∀ (f c' : Addr) (H1 : Hp) (s' : Shared), Inv X pins σ H1 s' → ExtN H H1 → (∀ b, H1 b = none → H b = none) → Tabs T H1 → H f = none → H1 f = some (LamO f ⟨X.env.qual ++ "<lambda>", params, body, scope, cloFrom X.env.cells scope.names [], c', dT⟩) → H1 c' = some (CodeO c' (X.env.qual ++ "<lambda>")) → Q (.ref f) s') :
    wpAny (model X.prog X.w) X.A (makeTail "<lambda>" (X.env.qual ++ "<lambda>") params (.expr body) scope X.env (dV dT) .none none pos pos.line) Q E s := by
  obtain ⟨ps, hP, ht, ha⟩ := hT _ hm
  have bP : s.heap.BuiltinsAt X.mg P := TB.bm.keeps I.bk
  have hP' : s.heap.get? P = some { cls := .none, data := .fields ps } := I.hok P _ hP
  cases hc : codeAmong pos ps.toList with
  | none =>
    refine PySem.W.kdv_makeTail (mg := X.mg) (c := c) (P := P) (ps := ps) (closure_ok hfree) I.ok.glob (I.mod.glob.keeps I.bk) hcode (TB.code.keeps I.bk) hP' ht hc TB.gP bP fun c' ctv doc h' tk hx hge hlt hrec htb => ?_
    obtain ⟨c2, oc, vs, t, e2, hoc, hd, hv⟩ := hrec
    cases e2
    have nC : H c' = none := I.hok.fresh hge
    have I1 := inv_table (t' := tk) (more := #[rawInt pos.line, rawInt pos.col, .ref c']) (h' := h') I hP (fun b o hb e => hx b o hb e) htb hge ⟨oc, vs, t, hoc, hd, hv⟩
    have hE : ExtN H (upd (upd H P (.tbl (ps ++ #[rawInt pos.line, rawInt pos.col, .ref c']))) c' (CodeO c' (X.env.qual ++ "<lambda>"))) := fun b o e n => by
      rw [upd_ne (ne_of_none e nC), upd_ne (fun z => n ps (Option.some.inj (e.symm.trans (by rw [z]; exact hP))))]
      exact e
    have eL : (ps ++ #[rawInt pos.line, rawInt pos.col, .ref c']).toList = ps.toList ++ [rawInt pos.line, rawInt pos.col, .ref c'] := by simp
    have T1 : Tabs T (upd (upd H P (.tbl (ps ++ #[rawInt pos.line, rawInt pos.col, .ref c']))) c' (CodeO c' (X.env.qual ++ "<lambda>"))) := fun p hp => by
      by_cases hb : p.1 = P
      · rw [hu p hp hb, hb]
        refine ⟨_, by rw [upd_ne (ne_of_none hP nC), upd_same], by rw [eL]; exact PySem.TriplesOk_snoc _ _ _ _ ht, fun p' cv hcv => ?_⟩
        rw [eL] at hcv
        rcases among_app _ ht hcv with z | z
        · obtain ⟨c0, e1, e2⟩ := ha p' cv z
          exact ⟨c0, e1, hE _ _ e2 codeO_ne⟩
        · exact ⟨c', z, upd_same⟩
      · obtain ⟨ps', a1, a2, a3⟩ := hT p hp
        refine ⟨ps', by rw [upd_ne (ne_of_none a1 nC), upd_ne hb]; exact a1, a2, fun p' cv hcv => ?_⟩
        obtain ⟨c0, e1, e2⟩ := a3 p' cv hcv
        exact ⟨c0, e1, hE _ _ e2 codeO_ne⟩
    have nF := I1.hok.fresh (Nat.le_refl _)
    have I2 := inv_lam (L := ⟨X.env.qual ++ "<lambda>", params, body, scope, cloFrom X.env.cells scope.names [], c', dT⟩) (t' := tk) (doc := doc) (pm := (X.mg "__name__").getD .none) (ctv := ctv) I1 rfl
    refine h h'.objs.size c' _ _ I2 (fun b o e n => ?_) (fun b e => NdefX.upd_none (NdefX.upd_none (NdefX.upd_none e))) (T1.ext fun b o e => ?_) (I.hok.fresh (Nat.le_trans hge (Nat.le_of_lt hlt))) upd_same ?_
    · have e1 := hE b o e n
      exact (upd_ne (ne_of_none e1 nF)).trans e1
    · exact (upd_ne (ne_of_none e nF)).trans e
    · exact (upd_ne (Nat.ne_of_lt hlt)).trans upd_same
  | some cv =>
    obtain ⟨c', e, hco⟩ := ha pos cv hc
    subst e
    refine PySem.W.kdv_makeTailHit (mg := X.mg) (c := c) (P := P) (ps := ps) (closure_ok hfree) I.ok.glob (I.mod.glob.keeps I.bk) hcode (TB.code.keeps I.bk) hP' ht hc bP fun ctv doc h' tk hx hsz => ?_
    have I1 : Inv X pins σ H { s with heap := h', toks := tk } := I.kept hx
    have nF : H h'.objs.size = none := I1.hok.fresh (Nat.le_refl _)
    have I2 := inv_lam (L := ⟨X.env.qual ++ "<lambda>", params, body, scope, cloFrom X.env.cells scope.names [], c', dT⟩) (t' := tk) (doc := doc) (pm := (X.mg "__name__").getD .none) (ctv := ctv) I1 rfl
    refine h h'.objs.size c' _ _ I2 (fun b o e n => ?_) (fun b e => NdefX.upd_none e) (hT.ext fun b o e => ?_) nF upd_same ?_
    · exact (upd_ne (ne_of_none e nF)).trans e
    · exact (upd_ne (ne_of_none e nF)).trans e
    · exact (upd_ne (ne_of_none hco nF)).trans hco
end
/-- at f: the lambda with these words, cells and defaults -/
structure LamAt (H : Hp) (f : Addr) (qual : Str) (params : Arguments) (body : Expr) (scope : Scope) (cl : List (Str × Addr)) (dvs : List V) : Prop where
  ex : ∃ (c' : Addr) (dT : Option Addr), H f = some (LamO f ⟨qual, params, body, scope, cl, c', dT⟩) ∧ H c' = some (CodeO c' qual) ∧ ((dT = none ∧ dvs = []) ∨ ∃ T, dT = some T ∧ dvs ≠ [] ∧ H T = some (.tup dvs))
theorem LamAt.ext {H H' : Hp} {f : Addr} {qual : Str} {params : Arguments} {body : Expr} {scope : Scope} {cl : List (Str × Addr)} {dvs : List V} (l : LamAt H f qual params body scope cl dvs) (e : ExtN H H') : LamAt H' f qual params body scope cl dvs := by
  obtain ⟨c', dT, h1, h2, h3⟩ := l
  refine ⟨c', dT, e _ _ h1 lamO_ne, e _ _ h2 codeO_ne, ?_⟩
  rcases h3 with h | ⟨T, a, b, c⟩
  · exact .inl h
  · exact .inr ⟨T, a, b, e _ _ c (fun ps z => by cases z)⟩
/-- a lambda is made -/
def tLamMk (T : List (Addr × Str)) (qual : Str) (params : Arguments) (body : Expr) (scope : Scope) (cl : List (Str × Addr)) (dvs : List V) : TE := fun σ H Q => Tabs T H ∧ ∀ (f : Addr) (H1 : Hp), ExtN H H1 → (∀ b, H1 b = none → H b = none) → Tabs T H1 → H f = none → LamAt H1 f qual params body scope cl dvs → Q (.ref f) H1
section
variable {X : Cx} {T : List (Addr × Str)} {c P : Addr} {params : Arguments} {body : Expr} {scope : Scope} {pos : Pos}
theorem pe_lam0 (TB : TabB X.base X.mg c P) (hcode : X.env.code = .ref c) (hm : (P, X.env.qual ++ "<lambda>") ∈ T) (hu : ∀ p ∈ T, p.1 = P → p.2 = X.env.qual ++ "<lambda>") (hdef : defaultsOf params X.env = ([], [])) (hfree : X.Ok → ∀ y ∈ scope.names, y.2 = .free → ∃ c, X.env.cells.lookup y.1 = some c) :
    PE X (.Lambda params body scope pos) (tLamMk T (X.env.qual ++ "<lambda>") params body scope (cloFrom X.env.cells scope.names []) []) := by
  refine ⟨fun pins s σ H Q I h => ?_⟩
  obtain ⟨hT, h⟩ := h
  refine PySem.W.kla_eval hdef ?_
  rw [makeFunction_eq]
  simp only [List.zip_nil_right, List.filterMap_nil, List.isEmpty_nil, if_true, pure_bind]
  exact lam_tail (dT := none) I TB hcode hm hu hT (hfree I.ok) fun f c' H1 s' I1 eN mo T1 n hf hc => ⟨.ref f, H1, I1, rfl, h f H1 eN mo T1 n ⟨c', none, hf, hc, .inl ⟨rfl, rfl⟩⟩⟩
theorem pe_lam1 {i : Int} {k : Nat} {p0 : Pos} (TB : TabB X.base X.mg c P) (hcode : X.env.code = .ref c) (hm : (P, X.env.qual ++ "<lambda>") ∈ T) (hu : ∀ p ∈ T, p.1 = P → p.2 = X.env.qual ++ "<lambda>") (hdef : params.defaults = [.Constant (.int i) k p0]) (hk0 : params.kw_defaults = []) (hfree : X.Ok → ∀ y ∈ scope.names, y.2 = .free → ∃ c, X.env.cells.lookup y.1 = some c) :
    PE X (.Lambda params body scope pos) (tLamMk T (X.env.qual ++ "<lambda>") params body scope (cloFrom X.env.cells scope.names []) [.int i]) := by
  refine ⟨fun pins s σ H Q I h => ?_⟩
  obtain ⟨hT, h⟩ := h
  refine PySem.W.kdv_lam (by rw [hdef]; rfl) hk0 ?_
  rw [hdef]
  refine PySem.W.kdv_all1 (thn ((pe_int (X := X)).run pins s σ H (fun v H' => v = .int i ∧ H' = H) I ⟨rfl, rfl⟩) fun u s1 ⟨v, H1, I1, r1, ev, eh⟩ => PySem.W.kdv_all0 ?_)
  subst ev eh
  rw [makeFunction_eq]
  simp only [List.zip_nil_right, List.filterMap_nil, List.isEmpty_nil, if_true, pure_bind, List.isEmpty_cons, Bool.false_eq_true, if_false]
  refine wpAny_bind (wpAny_newTextTuple ?_)
  have nT : H1 s1.heap.objs.size = none := I1.hok.fresh (Nat.le_refl _)
  have I2 : Inv X pins σ (upd H1 s1.heap.objs.size (.tup [.int i])) { s1 with heap := s1.heap.push { cls := .type "tuple", data := .seq [u].toArray } } := by
    refine I1.laid (t' := s1.toks) (fun b x e => Heap.get?_push_of_some _ e) (Nat.le_refl _) ?_
    exact ⟨by show 1 ≤ sizeLine; rw [sizeLine_eq]; decide, [u], .cons r1 .nil, ⟨_, Heap.get?_push_size _ rfl, rfl, _, rfl⟩⟩
  have s1' : ∀ b x, H1 b = some x → upd H1 s1.heap.objs.size (.tup [.int i]) b = some x := fun b x e => by rw [upd_ne (ne_of_none e nT)]; exact e
  refine lam_tail (dT := some s1.heap.objs.size) I2 TB hcode hm hu (hT.ext s1') (hfree I.ok) fun f c' H2 s' I3 eN mo T1 n hf hc => ⟨.ref f, H2, I3, rfl, h f H2 ((ExtN.of s1').trans eN) (fun b e => NdefX.upd_none (mo b e)) T1 (NdefX.upd_none n) ⟨c', some _, hf, hc, .inr ⟨_, rfl, by simp, ?_⟩⟩⟩
  exact eN _ _ upd_same fun ps z => by cases z
end
end LamD
set_option Elab.async false
set_option linter.all false
set_option maxRecDepth 100000
set_option maxHeartbeats 2000000
/-! LM2: such a lambda called, within the def that it was handed to. -/
namespace LamD
open PySem PySem.Spec PyProof.Rows L2 LamX
/-- its names: parameters of its own, captured ones, globals -/
structure LamS2 (sc scope : Scope) (ps : List Str) : Prop where
  kind : scope.kind = .function
  co : scope.isCoroutine = false
  gen : scope.isGenerator = false
  nocell : ∀ y ∈ scope.names, y.2 ≠ .cell
  free : ∀ y ∈ scope.names, y.2 = .free → sc.names.lookup y.1 = some .cell ∨ sc.names.lookup y.1 = some .free
  par : ∀ x ∈ ps, scope.names.lookup x = some .local
def lamS2B (sc scope : Scope) (ps : List Str) : Bool :=
  decide (scope.kind = .function) && !scope.isCoroutine && !scope.isGenerator && (scope.names.all fun y => !decide (y.2 = .cell) && (!decide (y.2 = .free) || decide (sc.names.lookup y.1 = some .cell) || decide (sc.names.lookup y.1 = some .free))) && ps.all fun x => decide (scope.names.lookup x = some .local)
theorem lamS2_by {sc scope : Scope} {ps : List Str} (h : lamS2B sc scope ps = true) : LamS2 sc scope ps := by
  unfold lamS2B at h
  simp only [Bool.and_eq_true, Bool.or_eq_true, Bool.not_eq_true', decide_eq_true_eq, decide_eq_false_iff_not, List.all_eq_true] at h
  obtain ⟨⟨⟨⟨h1, h2⟩, h3⟩, h4⟩, h5⟩ := h
  refine ⟨h1, h2, h3, fun y hy => (h4 y hy).1, fun y hy e => ?_, h5⟩
  rcases (h4 y hy).2 with (z | z) | z
  · exact absurd e z
  · exact .inl z
  · exact .inr z
theorem LamS2.has {X : Cx} {scope : Scope} {ps : List Str} (L : LamS2 X.env.scope scope ps) (ok : X.Ok) : ∀ y ∈ scope.names, y.2 = .free → ∃ c, X.env.cells.lookup y.1 = some c := fun y hy e => by
  rcases L.free y hy e with k | k
  · exact ok.has _ (.inl k)
  · exact ok.has _ (.inr k)
/-- the maker's slots as the lambda sees them: its own parameters hide names -/
def hideL (N : List Str) (scope : Scope) (σ : L2.St) : L2.St := List.zipWith (fun y o => if scope.names.lookup y = some .local then none else o) N σ
theorem hideL_get {N : List Str} {scope : Scope} {σ : L2.St} {i : Nat} {y : Str} {v : V} (h : (hideL N scope σ)[i]? = some (some v)) (hy : N[i]? = some y) : σ[i]? = some (some v) ∧ scope.names.lookup y ≠ some .local := by
  unfold hideL at h
  rw [List.getElem?_zipWith, hy] at h
  cases hs : σ[i]? with
  | none => rw [hs] at h; cases h
  | some o =>
    rw [hs] at h
    dsimp only at h
    split at h
    · cases h
    · rename_i z
      exact ⟨by rw [← hs]; rw [hs]; exact h, z⟩
theorem hideL_len {N : List Str} {scope : Scope} {σ : L2.St} (h : σ.length = N.length) : (hideL N scope σ).length = N.length := by
  unfold hideL
  rw [List.length_zipWith, h, Nat.min_self]
/-- how its defaults are bound -/
structure LBind (params : Arguments) (body : Expr) (scope : Scope) (ps : List Str) (dvs : List V) : Prop where
  len : ps.length = dvs.length
  b0 : dvs = [] → ∀ (q : Str) (cl : List (Str × Addr)) (doc pm cv ctv : Value), bindArgs (PySem.W.kdv_fn "<lambda>" q params (.expr body) scope cl .none doc pm cv ctv) ⟨[], []⟩ = pure []
  b1 : dvs ≠ [] → ∀ (q : Str) (cl : List (Str × Addr)) (T : Addr) (doc pm cv ctv : Value), ∃ k, bindArgs (PySem.W.kdv_fn "<lambda>" q params (.expr body) scope cl (.ref T) doc pm cv ctv) ⟨[], []⟩ = seqItems? (.ref T) >>= k ∧ ∀ us : List Value, us.length = ps.length → k (some us.toArray) = pure (ps.zip us)
section
variable {X : Cx} {pins : List (Addr × Obj)} {σ : L2.St} {H HZ : Hp} {s s1 : Shared}
theorem lam_start3 {A : Around} {outer : List Env} {E : XK} {scope : Scope} {f c' : Addr} {h₁ : Heap} {tk : Nat} {ps : List Str} {binds : List (Str × Value)} (I : Inv X pins σ H s) (L : LamS2 X.env.scope scope ps) (e0 : Env0 X.prog X.w X.K X.mg X.base A outer s1 HZ) (hd : A.handled = none)
    (un : Un (frs X.stack) [] H HZ s.heap s1.heap) (hns : h₁.Ns s1.heap.objs.size fun y => binds.reverse.lookup y) (kp : ∀ b o, s1.heap.get? b = some o → h₁.get? b = some o) :
    Inv (lamCx X A outer s1 HZ E scope f c') [] (hideL X.N scope σ) HZ { s1 with heap := h₁, toks := tk } := by
  have hfree := L.has I.ok
  have cm : ∀ {y c}, (cloFrom X.env.cells scope.names []).lookup y = some c → X.env.cells.lookup y = some c := fun {y c} e => by
    rcases cloFrom_mem (PySem.mem_of_lookup e) with hm | ⟨h1, h2⟩
    · cases hm
    · obtain ⟨c1, hc⟩ := hfree _ h1 rfl
      have hc : X.env.cells.lookup y = some c1 := hc
      have e2 : c = c1 := by
        rw [h2, hc] <;> rfl
      rw [e2]
      exact hc
  have look : ∀ {y}, scope.names.lookup y = some .free → ∃ c, (cloFrom X.env.cells scope.names []).lookup y = some c := fun {y} hl => by
    have hy : (y, NameKind.free) ∈ scope.names := PySem.mem_of_lookup hl
    exact mem_lookup (cloFrom_has (cells := X.env.cells) (acc := []) hy)
  have cellK : ∀ {c : Addr} {v : Option Value}, H c = none → s.heap.IsCell c v → h₁.IsCell c v := fun {c v} n ⟨o, ho, hd⟩ => by
    obtain ⟨sl, q⟩ := un.any ho n (by simp)
    exact ⟨_, kp _ _ q, hd⟩
  have noA : ∀ b : Addr, b ∉ (lamCx X A outer s1 HZ E scope f c').ex := fun b z => absurd (show b ∈ ([] : List Addr) from z) (by simp)
  refine ⟨⟨e0.mod, L.kind, rfl, rfl, Nat.le_refl _, fun y z c e1 e2 => I.ok.inj y z c (cm e1) (cm e2), fun y hy => ?_, fun y c z _ => ?_, fun _ => hd, Around.frames_deeper e0.frames, .inr ⟨rfl, rfl⟩, fun b z => absurd z (noA b), e0.bs, e0.bsz, fun b _ _ => noA b,
      fun b z => absurd z (noA b), e0.funs, e0.frf⟩,
    rfl, e0.bare, Un.kept kp, ⟨_, hns, fun i y v e1 e2 e3 => ?_⟩, fun y c e => ?_, e0.hok.fresh (Nat.le_refl _), fun y c e => ?_, fun q hq => absurd (show q ∈ ([] : List (Addr × Obj)) ++ [] from hq) (by simp), e0.hok.kept kp, hideL_len I.len⟩
  · have hy : scope.names.lookup y = some .cell ∨ scope.names.lookup y = some .free := hy
    rcases hy with hy | hy
    · exact absurd rfl (L.nocell _ (PySem.mem_of_lookup hy))
    · exact look hy
  · have z : false = true := z
    cases z
  · have e3 : Vis scope y := e3
    have e1' : X.N[i]? = some y := e1
    obtain ⟨e2, nl⟩ := hideL_get e2 e1'
    rcases e3 with k | k | k
    · exact absurd k nl
    · exact absurd rfl (L.nocell _ (PySem.mem_of_lookup k))
    · obtain ⟨m, hn, hl⟩ := I.loc
      have hvis : Vis X.env.scope y := (L.free _ (PySem.mem_of_lookup k) rfl).elim (fun k => .inr (.inl k)) (fun k => .inr (.inr k))
      obtain ⟨w', r, q⟩ := hl i y v e1 e2 hvis
      obtain ⟨c2, h2⟩ := look k
      refine ⟨w', r, .inr ⟨.inr k, c2, h2, ?_⟩⟩
      have c1 := cm h2
      rcases q with ⟨k', _⟩ | ⟨_, c3, e', z⟩
      · have k' : X.env.scope.names.lookup y = some .local := k'
        rcases L.free _ (PySem.mem_of_lookup k) rfl with k2 | k2 <;> rw [show X.env.scope.names.lookup y = _ from k2] at k' <;> cases k'
      · rw [c1] at e'
        cases e'
        exact cellK (I.freeC y _ c1) z
  · obtain ⟨w', z⟩ := I.cell y c (cm e)
    exact ⟨w', cellK (I.freeC y c (cm e)) z⟩
  · obtain ⟨v, o, ho, hd⟩ := I.cell y c (cm e)
    exact un.free c o ho (I.freeC y c (cm e)) (by simp)
/-- x(), in the def that got the lambda: Z is that def's context, entered at s -/
theorem pe_actD {CXg : CXT} {Eg : XK} {Ng : List Str} {qg : Str} {sg : Scope} {g f : Addr} {cdg : Value} {params : Arguments} {body : Expr} {scope : Scope} {k i : Nat} {a : Str} {pn : List (Addr × Obj)} {xe : Value → Shared → Prop} {W : WX} {E : XK} {tb : TE} {ps : List Str} {dvs : List V} {p1 p2 : Pos}
    (I : Inv X pins σ H s) (L : LamS2 X.env.scope scope ps) (B : LBind params body scope ps dvs)
    (tk : Takes ((cxOf CXg X.prog X.w X.K X.mg X.base Ng qg sg g cdg X.A X.stack s H Eg).tr pn xe) W) (hr : Room (k + 1) (X.A.deeper (envOfC qg sg s.heap.objs.size g cdg)))
    (hbody : ∀ (A : Around) (outer : List Env) (s : Shared) (H : Hp) (c' : Addr), Room k (A.deeper (lamEnv X scope s.heap.objs.size f c')) → PE (lamCx X A outer s H E scope f c') body tb)
    (hN : Ng[i]? = some a) (hv : Vis sg a) (hd : (a == ("__debug__" : Str)) = false := by decide) (hcd : (a == ("__classdict__" : Str)) = false := by decide) :
    PE ((cxOf CXg X.prog X.w X.K X.mg X.base Ng qg sg g cdg X.A X.stack s H Eg).tr pn xe) (.Call (.Name a p1) [] [] p2)
      (fun σZ HZ Q => σZ[i]? = some (some (.ref f)) ∧ LamAt HZ f (X.env.qual ++ "<lambda>") params body scope (cloFrom X.env.cells scope.names []) dvs ∧ (∀ cls d H', E cls d H' → W cls d σZ H') ∧ tb (hideL X.N scope σ) HZ Q) := by
  refine ⟨fun pinsZ sZ σZ HZ Q IZ h => ?_⟩
  obtain ⟨hs, ⟨c', dT, hf, hc, hdT⟩, hW, ht⟩ := h
  refine wpAny_Call_Name_kw (thn ((pe_var (pos := p1) (i := i) hN hv hd hcd).run pinsZ sZ σZ HZ (fun v H1 => v = .ref f ∧ H1 = HZ) IZ ⟨.ref f, hs, rfl, rfl⟩) fun u s1 ⟨v, H1, I1, r1, q1⟩ => ?_)
  obtain ⟨ev, eH⟩ := q1
  subst ev
  rw [eH] at I1
  obtain rfl : u = Value.ref f := r1
  obtain ⟨od, sl, doc, pm, ctv, of1⟩ := lamO_at I1.hok hf
  refine PySem.W.callWith_F0 ⟨_, _, _, _, of1⟩ ?_
  have un : Un (frs X.stack) [] H HZ s.heap s1.heap := I1.base
  obtain ⟨⟨oc, vs, t, hoc, hdc, hvc⟩, _, _⟩ := I1.hok c' _ hc
  have rc : codeAny (model X.prog X.w) (X.A.deeper (envOfC qg sg s.heap.objs.size g cdg)) (.call (.ref f) ⟨[], []⟩) (CR (L2.CX X.prog X.w) (envOfC qg sg s.heap.objs.size g cdg :: X.stack) X.prog X.w HZ s1 Q E) s1 := by
    refine PySem.W.kla_callFunE hr.depth of1 rfl L.co L.gen rfl ⟨c', oc, vs, t, rfl, hoc, hdc, hvc⟩ ?_
    -- the body, its defaults bound
    have go : ∀ (us : List Value), us.length = ps.length → wpAny (model X.prog X.w) (X.A.deeper (envOfC qg sg s.heap.objs.size g cdg)).in1 (newFunctionEnv scope mainGlobals (cloFrom X.env.cells scope.names []) (ps.zip us) ((X.env.qual ++ "<lambda>") ++ ".<locals>.") (some f) (.ref c') none builtinsNs)
        (fun env s₂ => s₂.heap.NoLimit ∧ codeAny (model X.prog X.w) (X.A.deeper (envOfC qg sg s.heap.objs.size g cdg)) (.expr body env) (CR (L2.CX X.prog X.w) (envOfC qg sg s.heap.objs.size g cdg :: X.stack) X.prog X.w HZ s1 Q E) s₂) (fun e s' => CR (L2.CX X.prog X.w) (envOfC qg sg s.heap.objs.size g cdg :: X.stack) X.prog X.w HZ s1 Q E (.error e) s') s1 := by
      intro us hl
      refine wpAny_newFunctionEnv L.nocell (fun ⟨n, _⟩ hy => L.par n (List.of_mem_zip hy).1) (fun h₁ hns hsb => ⟨I1.nolimit.fresh _ hsb, ?_⟩) L.kind
      show codeAny _ _ (.expr body (lamEnv X scope s1.heap.objs.size f c')) _ _
      have kp : ∀ b o, s1.heap.get? b = some o → h₁.get? b = some o := fun b o e => hsb.extBut b o (Nat.ne_of_lt (Heap.lt_size e)) (Heap.get?_push_of_some _ e)
      have J : Inv (lamCx X (X.A.deeper (envOfC qg sg s.heap.objs.size g cdg)) (envOfC qg sg s.heap.objs.size g cdg :: X.stack) s1 HZ E scope f c') [] (hideL X.N scope σ) HZ { s1 with heap := h₁, toks := s1.toks + (ps.zip us).length } :=
        lam_start3 I L I1.env0 hr.hd un hns kp
      refine PySem.W.kla_codeExpr (wpAny_mono ((hbody _ _ s1 HZ c' (hr.deeper _)).run [] _ _ HZ Q J ht) (fun v s' hq => ?_) fun e s' hq => hq)
      obtain ⟨w', H', J', rv, q⟩ := hq
      exact ⟨w', H', J'.os, J'.bare, J'.base, J'.hok, rv, q⟩
    rcases hdT with ⟨rfl, hd0⟩ | ⟨T, rfl, hd0, hT⟩
    · have hl := B.len
      rw [hd0] at hl
      have hps : ps = [] := List.length_eq_zero_iff.mp hl
      have hb := B.b0 hd0 (X.env.qual ++ "<lambda>") (cloFrom X.env.cells scope.names []) doc pm (.ref c') ctv
      show wpAny _ _ (bindArgs (PySem.W.kdv_fn "<lambda>" (X.env.qual ++ "<lambda>") params (.expr body) scope (cloFrom X.env.cells scope.names []) .none doc pm (.ref c') ctv) ⟨[], []⟩) _ _ _
      rw [hb]
      have g0 := go [] (by rw [hps]; rfl)
      rw [hps] at g0
      exact wpAny_pure g0
    · obtain ⟨kk, hb, hk⟩ := B.b1 hd0 (X.env.qual ++ "<lambda>") (cloFrom X.env.cells scope.names []) T doc pm (.ref c') ctv
      obtain ⟨its, rv, pT, _⟩ := I1.tuple (SqT.of hT)
      obtain ⟨oT, hoT, hcT, nT, hdT'⟩ := (show s1.heap.IsTuple T its.toArray from pT)
      have hl : its.length = ps.length := by rw [← rv.length, B.len]
      show wpAny _ _ (bindArgs (PySem.W.kdv_fn "<lambda>" (X.env.qual ++ "<lambda>") params (.expr body) scope (cloFrom X.env.cells scope.names []) (.ref T) doc pm (.ref c') ctv) ⟨[], []⟩) _ _ _
      rw [hb]
      refine wpAny_bind (wpAny_seqItems hoT hdT' ?_)
      rw [hk its hl]
      exact wpAny_pure (go its hl)
  refine wpAny_call (codeAny_mono rc fun r s' hq => ?_)
  cases r with
  | error e => exact tk e s' (XE.of_call I1 (fun cls d H' h => hW cls d H' h) hq)
  | ok fl =>
    cases fl with
    | ret u => exact I1.after hq
    | next => exact False.elim hq
    | brk => exact False.elim hq
    | cont => exact False.elim hq
end
end LamD
set_option Elab.async false
set_option linter.all false
set_option maxRecDepth 100000
set_option maxHeartbeats 2000000
/-! TA1: several except clauses «except x as n» with one name n (the pattern of HandS.TryMany and of ps_try_as, joined). -/
namespace L2
open PySem PySem.Spec PyProof.Rows
/-- the clauses' wishes; slot i is n's -/
def wManyA (K : PySem.W.Frag) (i : Nat) (Wout : WX) (D : Ends) : List (Value × (Addr → Value → Option Addr → TS)) → WX
  | [] => Wout
  | (c, ts) :: r => fun cls d σ H => ∃ b, PySem.W.exmOne K cls c = some b ∧ (b = true → ∀ a, H a = none → ts a cls d { nx := fun σ' H' => D.nx (σ'.set i none) H', rt := D.rt, bk := fun σ' H' => D.bk (σ'.set i none) H', ct := fun σ' H' => D.ct (σ'.set i none) H' } (σ.set i (some (.ref a))) H) ∧ (b = false → wManyA K i Wout D r cls d σ H)
inductive HdsA (X : Cx) (n : Str) : List ExceptHandler → List (Value × (Addr → Value → Option Addr → TS)) → Prop
  | nil : HdsA X n [] []
  | cons {x : Str} {c : Value} {ts : Addr → Value → Option Addr → TS} {b₀ : Stmt} {suite : List Stmt} {np pos' : Pos} {hds : List ExceptHandler} {l : List (Value × (Addr → Value → Option Addr → TS))} (hc : Names X x c)
      (hsu : ∀ (a : Addr) (oe : Obj) (cls : Value) (d : Option Addr) (pn : List (Addr × Obj)), Zc cls d oe → (∃ vs, oe.data = .fields vs) → PSs (X.suite a ((a, oe) :: pn)) (b₀ :: suite) (ts a cls d)) (r : HdsA X n hds l) :
      HdsA X n (.ExceptHandler (some (.Name x np)) (some n) (b₀ :: suite) pos' :: hds) ((c, ts) :: l)
section
variable {X : Cx} {n : Str} {i : Nat} {body : List Stmt} {h₀ : ExceptHandler} {hds : List ExceptHandler} {l : List (Value × (Addr → Value → Option Addr → TS))} {pos : Pos} {tb : WX → TS} {Wout : WX}
theorem ps_try_manyA (hs : X.stack = X.env :: X.outer) (hf : X.env.frame = some X.env.locals) (hN : X.N.Nodup) (hi : X.N[i]? = some n) (hln : X.env.kindOf n = some .local) (tk : Takes X Wout)
    (hb : ∀ (W : WX) (pn : List (Addr × Obj)) (xe : Value → Shared → Prop), Takes (X.tr pn xe) W → PassesOwn (model X.prog X.w) X.A X.env xe → PSs (X.tr pn xe) body (tb W))
    (hh : HdsA X n (h₀ :: hds) l) : PS X (.Try body (h₀ :: hds) [] [] pos) (fun D σ H => tb (wManyA X.K i Wout D l) D σ H) := by
  refine ⟨fun pins s σ H D I h => ?_⟩
  have ok := I.ok
  have hfr : X.A.frames = some (X.env :: X.outer) := by rw [ok.frames, hs]
  have hloc : Loc X.env.scope n := .inl hln
  refine wpAny_Try_except ?_
  refine wpAny_mono ((hb (wManyA X.K i Wout D l) (X.pn ++ pins) (fun e s₁ => wpAny (model X.prog X.w) X.A (noteFrame e X.env) (fun _ s₂ => wpAny (model X.prog X.w) X.A (setFlight e none) (fun _ s₃ =>
    wpAny (model X.prog X.w) X.A (handleBy e X.env (h₀ :: hds)) (SP X pins D) X.xe s₃) X.xe s₂) X.xe s₁) (fun u s' xx => ?_) PassesOwn.looking).run [] s σ H D (I.toTry _) h) (fun f s1 hsp => ?_) (fun e s1 he => he)
  · -- the catch
    obtain ⟨a, B, sI, pins', σ', H', cls, d, rfl, J', nb, up, sky, na, os, ag, w⟩ := xx
    have J : Inv X pins σ' H' sI := J'.ofTry ok
    have sky' : Sky B (X.env :: X.outer) a (Zc cls d) X.env.locals s'.heap := by rw [← hs]; exact sky
    show wpAny (model X.prog X.w) X.A (noteFrame (.ref a) X.env) _ _ _
    refine Sky.land Zc.steady hfr hf sky' fun h3 fl3 up3 => ?_
    have J3 : Inv X pins σ' H' { s' with heap := h3 } := J.landed nb fl3.1 (up.trans up3) os ag
    obtain ⟨oe3, vs3, he3, hz3, hd3⟩ := fl3.there
    have notFr : ∀ {h : Heap} {o : Obj} {vs : Array Value}, h.FunFrames B (X.env :: X.outer) → h.get? a = some o → o.data = .fields vs → a ∉ frs (X.env :: X.outer) := fun {h o vs} ff e dd hm => by
      obtain ⟨_, o', e', hnf⟩ := ff.mem hm
      rw [e] at e'; cases e'
      exact hnf _ dd
    have nfr := notFr fl3.2.2.1 he3 hd3
    have nL : a ≠ X.env.locals := fun z => nfr (List.mem_filterMap.mpr ⟨X.env, List.mem_cons_self, by rw [hf, z]⟩)
    have nF : a ∉ X.fs := fun hm => by
      obtain ⟨e, he, q⟩ := List.mem_filterMap.mp hm
      exact nfr (List.mem_filterMap.mpr ⟨e, List.mem_cons_of_mem _ he, q⟩)
    have S3 := J3.suite he3 hd3 na nL nF
    have go : ∀ {hds' : List ExceptHandler} {l' : List (Value × (Addr → Value → Option Addr → TS))}, HdsA X n hds' l' → wManyA X.K i Wout D l' cls d σ' H' →
        wpAny (model X.prog X.w) X.A (handleBy (.ref a) X.env hds') (SP X pins D) X.xe { s' with heap := h3 } := by
      intro hds' l' hk
      induction hk with
      | nil =>
        intro w
        refine wpAny_handleBy_nil ?_
        obtain ⟨k1, k2, k3, oe, vs, T, oT, ts', he, hz, hd, h1, hr⟩ := id fl3
        unfold PySem.passOn
        refine wpAny_bind (wpAny_field he hd h1 ?_)
        rw [if_neg (show ¬ ((Value.ref T == Value.none) = true) from by simp)]
        have fin : wpAny (model X.prog X.w) X.A (setFlight (.ref a) X.env.frame) (fun _ s4 => wpAny (model X.prog X.w) X.A (throw (.ref a) : Sem Flow) (SP X pins D) X.xe s4) X.xe { s' with heap := h3 } := by
          rw [hf]
          refine HandSPX.setFlight_upZ fl3 fun h4 hh4 up4 => wpAny_throw (tk _ _ ?_)
          exact ⟨a, B, sI, pins, σ', H', cls, d, rfl, J, nb, (up.trans up3).trans up4, .inr (.inr (by rw [hs]; exact hh4)), na, os, ag, w⟩
        first
          | exact wpAny_bind (wpAny_pure (wpAny_bind fin))
          | exact wpAny_bind fin
      | @cons x c ts b₀ suite np pos' hds2 l2 hc hsu r ih =>
        intro w
        obtain ⟨b, hb1, hyes, hno⟩ := w
        refine wpAny_handleBy_cons (codeAny_handlers_test ?_) (by intro q; cases q)
        have LT : PySem.W.Looks (model X.prog X.w) h3 (typeOf (.ref a)) cls := fun A Q E s k q => wpAny_typeOf_ref (k _ _ he3) (by rw [hz3.1]; exact q)
        have LM := PySem.W.exm_one (M := model X.prog X.w) (J3.kIn) LT hb1
        have test : ∀ {Q : Value → Shared → Prop} {E : Value → Shared → Prop}, Q c { s' with heap := h3 } → wpAny (model X.prog X.w) (X.A.mark (some (.ref a))) (eval (.Name x np) X.env) Q E { s' with heap := h3 } := fun {Q E} q => by
          obtain ⟨hg, hdbg, hm | ⟨hm, hv, hnn⟩⟩ := hc
          · exact ld_glob (X := X.suite a ((a, oe3) :: (X.pn ++ pins))) S3 hg hm q hdbg
          · exact ld_blt (X := X.suite a ((a, oe3) :: (X.pn ++ pins))) S3 hg hm hv q hnn hdbg
        refine test (LM.here ?_)
        cases b with
        | true =>
          refine codeAny_handlers_suite_as ?_
          refine HandSPX.lands_againZ fl3 fun h4 fl4 up4 => ?_
          have J4 : Inv X pins σ' H' { s' with heap := h4 } := J.landed nb fl4.1 ((up.trans up3).trans up4) os ag
          obtain ⟨oe4, vs4, he4, hz4, hd4⟩ := fl4.there
          have S4 := J4.suite he4 hd4 na nL nF
          refine store_ok (X := X.suite a ((a, oe4) :: (X.pn ++ pins))) (v := .ref a) S4 hN hi hloc rfl (fun s5 S5 => ?_) (.inr hln)
          refine wpAny_mono ((hsu a oe4 cls d (X.pn ++ pins) hz4 ⟨_, hd4⟩).run [] s5 _ H' _ S5 (hyes rfl a na)) (fun f s6 hsp => ?_) (fun _ _ z => False.elim z)
          have end_ : ∀ {σ6 : St} {H6 : Hp} {Q : Shared → Prop}, Inv (X.suite a ((a, oe4) :: (X.pn ++ pins))) [] σ6 H6 s6 → (∀ s7, Inv X pins (σ6.set i none) H6 s7 → Q s7) →
              wpAny (model X.prog X.w) X.A (do bindName X.env n .none; unbindBehindTheSuite X.env n pos') (fun _ s7 => Q s7) X.xe s6 := fun {σ6 H6 Q} S6 hq => gone_ok (S6.unsuite ok) hN hi hln hq
          cases f with
          | next =>
            obtain ⟨σ6, H6, S6, q6⟩ := hsp
            exact end_ S6 fun s7 J7 => ⟨_, _, J7, q6⟩
          | brk =>
            obtain ⟨σ6, H6, S6, q6⟩ := hsp
            exact end_ S6 fun s7 J7 => ⟨_, _, J7, q6⟩
          | cont =>
            obtain ⟨σ6, H6, S6, q6⟩ := hsp
            exact end_ S6 fun s7 J7 => ⟨_, _, J7, q6⟩
          | ret u =>
            obtain ⟨v6, σ6, H6, S6, r6, q6⟩ := hsp
            exact end_ S6 fun s7 J7 => ⟨_, _, _, J7, r6, q6⟩
        | false =>
          show wpAny _ X.A (handleBy (.ref a) X.env hds2) _ _ _
          exact ih (hno rfl)
    exact go hh w
  · cases f with
    | next =>
      obtain ⟨σ', H', J', q⟩ := hsp
      exact wpAny_execs_nil ⟨σ', H', J'.ofTry ok, q⟩
    | brk =>
      obtain ⟨σ', H', J', q⟩ := hsp
      exact ⟨σ', H', J'.ofTry ok, q⟩
    | cont =>
      obtain ⟨σ', H', J', q⟩ := hsp
      exact ⟨σ', H', J'.ofTry ok, q⟩
    | ret u =>
      obtain ⟨v, σ', H', J', r, q⟩ := hsp
      exact ⟨v, σ', H', J'.ofTry ok, r, q⟩
end
end L2
set_option Elab.async false
set_option linter.all false
set_option maxRecDepth 100000
set_option maxHeartbeats 2000000
/-! LM3: a def that gets one thing, called; its promise told of the very state (so that a lambda of the caller's may be called in it). -/
namespace LamD
open PySem PySem.Spec PyProof.Rows L2 LamX
theorem pe_callF {X : Cx} {x a : Str} {pg : Arguments} {bg : List Stmt} {sg : Scope} {g : Addr} {fd : FuncData} {Ng : List Str} {k : Nat} {e : Expr} {te : TE} {pre : L2.St → Hp → V → VK → Prop} {p pos : Pos}
    (F : FunD X.K x x pg bg sg [] [] g fd) (Sg : FnScope Ng [a] sg) (hb : L2.Binds X.K fd [a] []) (hg : Gl X x) (hm : X.mg x = some (.ref g)) (hr : Room (k + 1) X.A) (ha : PE X e te)
    (hG : ∀ (cdv : Value) (pins : List (Addr × Obj)) (σ : L2.St) (H : Hp) (s : Shared) (v : V) (Q : VK), Inv X pins σ H s → Room k (X.A.deeper (envOfC x sg s.heap.objs.size g cdv)) → pre σ H v Q →
      ∃ t, PSs (cxOf CX0 X.prog X.w X.K X.mg X.base Ng x sg g cdv X.A X.stack s H E0).nox bg t ∧ t { nx := fun _ H' => Q .non H', rt := Q } (L2.start Ng [v]) H)
    (hdb : (x == ("__debug__" : Str)) = false := by decide) (he : starEach (e :: []) X.env = (false, eval e X.env) :: starEach [] X.env := by rfl) (hpl : (backTo pos (starEach [] X.env)).any (·.1) = false := by rfl) :
    PE X (.Call (.Name x p) [e] [] pos) (fun σ H Q => te σ H fun v H1 => pre σ H1 v Q) := by
  obtain ⟨oc, od, dVv, kV, doc, pm, an, cdv, ct, osl, rfl, lk, hcd, _, _⟩ := F.ex
  refine ⟨fun pins s σ H Q I h => ?_⟩
  refine wpAny_Call_Name_kw (ld_glob I hg hm ?_ hdb)
  refine PySem.W.callWith_K (h₀ := X.base) I.ok.mod.kin F.kp ?_ he hpl
  rw [he]
  show wpAny _ _ (spliced ((false, eval e X.env) :: backTo pos (starEach [] X.env))) _ _ s
  refine Calls.spliced_cons (thn (ha.run pins s σ H _ I h) fun u s1 ⟨v, H1, I1, r1, q1⟩ => ?_)
  refine Calls.spliced_nil ⟨I1.kIn, ?_⟩
  have rc : codeAny (model X.prog X.w) X.A (.call (.ref g) ⟨[u], []⟩) (CR CX0 X.stack X.prog X.w H1 s1 Q E0) s1 := by
    refine run_ofS (N := Ng) (ps := [a]) (us := [u]) (vs := [v]) lk hcd Sg hr I1.env0 (hb s1 [u] I1.kIn rfl) (.cons r1 .nil) rfl fun hr' => ?_
    obtain ⟨t', ht', hq'⟩ := hG cdv pins σ H1 s1 v Q I1 hr' q1
    exact ⟨t', ht'.nox, hq'⟩
  refine wpAny_call (codeAny_mono rc fun r s2 hq => ?_)
  cases r with
  | error e => exact (show False from hq).elim
  | ok fl =>
    cases fl with
    | ret u => exact I1.after hq
    | next => exact False.elim hq
    | brk => exact False.elim hq
    | cont => exact False.elim hq
end LamD
set_option Elab.async false
set_option linter.all false
set_option maxRecDepth 100000
/-! S3: the second level's state, for hand statements. -/
namespace Ev
open PySem PySem.Spec PyProof.Rows L2 RT RZ LamX LamD
section
variable {K : Frag} {T : List (Addr × Str)} {A : List (Nat × Addr)} {G0 G1 H H' : Hp} {σ : L2.St} {ρ : Env}
theorem R2.tabs (R : R2 K T A G0 H σ ρ) : Tabs T H := let ⟨_, _, _, t, R⟩ := R.ex; t.ext R.frm
theorem R2.frm (R : R2 K T A G0 H σ ρ) : Same G0 H := let ⟨_, _, g, _, R⟩ := R.ex; g.trans R.frm
theorem R2.len (R : R2 K T A G0 H σ ρ) : ρ.length = σ.length := let ⟨_, _, _, _, R⟩ := R.ex; R.len
theorem R2.pin (R : R2 K T A G0 H σ ρ) : ∀ p ∈ A, σ[p.1]? = some (some (.ref p.2)) := let ⟨_, _, _, _, R⟩ := R.ex; R.pin
/-- the heap grows, tables change -/
theorem R2.extN (R : R2 K T A G0 H σ ρ) (hn : NoTb G0) (e : ExtN H H') (t : Tabs T H') : R2 K T A G0 H' σ ρ := by
  obtain ⟨G, F, g, tG, R⟩ := R
  have heldL : ∀ b, Held σ ρ b → ∃ vs, H b = some (.lst vs) := fun b ⟨i, xs, h1, h2⟩ => by
    obtain ⟨a, h3, _, _, vs, h4, _⟩ := R.own i xs h1
    rw [h2] at h3; cases h3
    exact ⟨vs, h4⟩
  refine ⟨full H' σ ρ, untb F, fun b x h => ?_, tabs_lst t fun b o h n => ?_, full_le, fun b x h => ?_, fun i d h => ?_, fun i xs h => ?_, R.dis, R.pin, R.len⟩
  · rw [full_not (R.notHeld (.inl (by rw [g _ _ h]; simp)))]
    exact e _ _ (R.frm _ _ (g _ _ h)) fun ps z => by subst z; exact hn b ps h
  · rw [full_not fun z => ?_]
    · exact h
    · obtain ⟨vs, hv⟩ := heldL b z
      rw [e _ _ hv (fun _ z => by cases z)] at h
      cases h
      exact n _ rfl
  · have h1 := untb_le _ _ h
    exact e _ _ (R.sub _ _ h1) fun ps z => by subst z; exact untb_no _ _ h
  · obtain ⟨v, h1, h2⟩ := R.imm i d h
    exact ⟨v, h1, h2.monoN fun b x h n => untb_some h n⟩
  · obtain ⟨a, h1, g1, f1, vs, h2, h3⟩ := R.own i xs h
    refine ⟨a, h1, full_held ⟨i, xs, h, h1⟩, ?_, vs, e _ _ h2 (fun _ z => by cases z), h3.monoN fun b x h n => untb_some h n⟩
    cases q : untb F a with
    | none => rfl
    | some x => rw [untb_le _ _ q] at f1; cases f1
theorem R2.ext (R : R2 K T A G0 H σ ρ) (hn : NoTb G0) (e : Same H H') : R2 K T A G0 H' σ ρ := R.extN hn (ExtN.of e) (R.tabs.ext e)
/-- what may not change, chosen anew: all but the own lists and the tables -/
theorem R2.re (R : R2 K T A G0 H σ ρ) (hn : NoTb G0) : Same G0 (untb (full H σ ρ)) ∧ R2 K T A (untb (full H σ ρ)) H σ ρ := by
  obtain ⟨G, F, g, t, R⟩ := R
  exact ⟨fun b x h => untb_some (R.leFull _ _ (g _ _ h)) fun ps z => (by subst z; exact hn b ps h), full H σ ρ, F, untb_le, t.ext R.leFull, R.reG (.refl _)⟩
theorem R2.mono (R : R2 K T A G1 H σ ρ) (s : Same G0 G1) : R2 K T A G0 H σ ρ := let ⟨G, F, g, t, R⟩ := R.ex; ⟨G, F, s.trans g, t, R⟩
theorem R2.clr (R : R2 K T A G0 H σ ρ) (i : Nat) : R2 K T A G0 H σ (clrE ρ i) := let ⟨G, F, g, t, R⟩ := R.ex; ⟨G, F, g, t, R.clr i⟩
theorem R2.clrs (R : R2 K T A G0 H σ ρ) : ∀ is : List Nat, R2 K T A G0 H σ (clrAll is ρ)
  | [] => R
  | i :: is => by
    unfold clrAll
    exact (R.clrs is).clr i
/-- a slot of which nothing is told: stored anew -/
theorem R2.setU {i : Nat} {o : Option V} (R : R2 K T A G0 H σ ρ) (h : getE ρ i = none) (hA : ∀ p ∈ A, p.1 ≠ i) : R2 K T A G0 H (σ.set i o) ρ := by
  obtain ⟨G, F, g, t, R⟩ := R
  have ne : ∀ j o', getE ρ j = some o' → i ≠ j := fun j o' q z => by rw [← z, h] at q; cases q
  refine ⟨G, F, g, t, R.frm, R.sub, fun j d q => ?_, fun j xs q => ?_, fun j k xs ys a q1 q2 z1 z2 => ?_, fun p hp => ?_, by rw [List.length_set]; exact R.len⟩
  · rw [List.getElem?_set_ne (ne _ _ q)]
    exact R.imm j d q
  · rw [List.getElem?_set_ne (ne _ _ q)]
    exact R.own j xs q
  · rw [List.getElem?_set_ne (ne _ _ q1)] at z1
    rw [List.getElem?_set_ne (ne _ _ q2)] at z2
    exact R.dis j k xs ys a q1 q2 z1 z2
  · rw [List.getElem?_set_ne (hA p hp).symm]
    exact R.pin p hp
theorem R2.addPin {i : Nat} {a : Addr} (R : R2 K T A G0 H σ ρ) (h : σ[i]? = some (some (.ref a))) : R2 K T ((i, a) :: A) G0 H σ ρ := by
  obtain ⟨G, F, g, t, R⟩ := R
  refine ⟨G, F, g, t, R.frm, R.sub, R.imm, R.own, R.dis, fun p hp => ?_, R.len⟩
  rcases List.mem_cons.mp hp with rfl | hp
  · exact h
  · exact R.pin p hp
theorem R2.subPin {B : List (Nat × Addr)} (R : R2 K T A G0 H σ ρ) (h : ∀ p ∈ B, p ∈ A) : R2 K T B G0 H σ ρ :=
  let ⟨G, F, g, t, R⟩ := R.ex; ⟨G, F, g, t, R.frm, R.sub, R.imm, R.own, R.dis, fun p hp => R.pin p (h p hp), R.len⟩
theorem getE_clrs {is : List Nat} {i : Nat} (h : i ∈ is) (ρ : Env) : getE (clrAll is ρ) i = none := by rw [getE_clrAll, if_pos h]
/-- data, told in the heap itself -/
theorem R2.imm {i : Nat} {d : PyData} (R : R2 K T A G0 H σ ρ) (h : getE ρ i = some (.imm d)) : ∃ v, σ[i]? = some (some v) ∧ Dn K H v d := by
  obtain ⟨G, F, g, t, R⟩ := R
  obtain ⟨v, h1, h2⟩ := R.imm i d h
  exact ⟨v, h1, h2.mono R.sub⟩
end
section
variable {X : Cx} {T : List (Addr × Str)} {A : List (Nat × Addr)} {G0 : Hp} {cs : CS}
theorem s2_ps {st : Stmt} {is : IS} {t : TS} (h : PS X st t) (hw : ∀ σ H ρ out ρ', R2 X.K T A G0 H σ ρ → evS cs is ρ = some (out, ρ') → t (End2 X.K T A G0 out ρ') σ H) : S2 X T A G0 cs st is :=
  ⟨fun pins s σ H ρ out ρ' I R e => h.run pins s σ H _ I (hw σ H ρ out ρ' R e)⟩
theorem sb2_pss {st : List Stmt} {is : ISs} {t : TS} (h : PSs X st t) (hw : ∀ σ H ρ out ρ', R2 X.K T A G0 H σ ρ → evSs cs is ρ = some (out, ρ') → t (End2 X.K T A G0 out ρ') σ H) : SB2 X T A G0 cs st is :=
  ⟨fun pins s σ H ρ out ρ' I R e => h.run pins s σ H _ I (hw σ H ρ out ρ' R e)⟩
/-- x(..), x a local that holds a def of the module's -/
theorem pe_callV {CX : CXT} {k i : Nat} {f : Addr} {fd : FuncData} {ps : List Str} {sp : Sp} {E : XK} {y : Str} {p pos : Pos} {e : Expr} {es : List Expr} {t : TA} (F : FnOk X.prog X.w X.K X.mg X.base CX k f fd ps sp) (hr : Room k X.A) (hk : PySem.W.keepIn X.K (.ref f) = true) (hb : L2.Binds X.K fd ps []) (hx : Passes CX X E) (ha : PA X (e :: es) t)
    (hN : X.N[i]? = some y) (hv : Vis X.env.scope y) (hd : (y == ("__debug__" : Str)) = false := by decide) (hcd : (y == ("__classdict__" : Str)) = false := by decide)
    (he : starEach (e :: es) X.env = (false, eval e X.env) :: starEach es X.env := by rfl) (hpl : (backTo pos (starEach es X.env)).any (·.1) = false := by rfl) :
    PE X (.Call (.Name y p) (e :: es) [] pos) (fun σ H Q => σ[i]? = some (some (.ref f)) ∧ tCall sp [] E t σ H Q) := by
  refine ⟨fun pins s σ H Q I ⟨hs, h⟩ => ?_⟩
  refine wpAny_Call_Name_kw (thn ((pe_var (pos := p) (i := i) hN hv hd hcd).run pins s σ H (fun v H1 => v = .ref f ∧ H1 = H) I ⟨.ref f, hs, rfl, rfl⟩) fun u s1 ⟨v, H1, I1, r1, q1⟩ => ?_)
  obtain ⟨ev, eH⟩ := q1
  subst ev eH
  obtain rfl : u = Value.ref f := r1
  exact PySem.W.callWith_K (h₀ := X.base) I.ok.mod.kin hk (thn (ha.run pos pins s1 σ _ _ I1 h) fun us s2 ⟨vs, H2, I2, r, q⟩ => ⟨I2.kIn, run_fn F hr hb .nil hx I2 r q⟩) he hpl
end
end Ev
set_option Elab.async false
set_option linter.all false
set_option maxRecDepth 100000
/-! S4: blocks one behind the other. -/
namespace Ev
open PySem PySem.Spec PyProof.Rows L2 RT RZ LamX LamD
theorem execs_app (env : PySem.Env) (l1 l2 : List Stmt) : execs (l1 ++ l2) env = (do match ← execs l1 env with | .next => execs l2 env | f => pure f) := by
  induction l1 with
  | nil =>
    show execs l2 env = (pure Flow.next >>= _)
    rw [pure_bind]
  | cons st rest ih =>
    rw [List.cons_append]
    show (exec st env >>= _) = ((exec st env >>= _) >>= _)
    rw [bind_assoc]
    congr 1
    funext f
    cases f with
    | next => exact ih
    | _ => rw [pure_bind]
theorem pss_app {X : Cx} {l1 l2 : List Stmt} {t u : TS} (h1 : PSs X l1 t) (h2 : PSs X l2 u) : PSs X (l1 ++ l2) (tSeq t u) := by
  refine ⟨fun pins s σ H D I h => ?_⟩
  rw [execs_app]
  refine wpAny_bind (thn (h1.run pins s σ H { D with nx := u D } I h) fun f s1 q => ?_)
  cases f with
  | next =>
    obtain ⟨σ', H', I', q⟩ := q
    exact h2.run pins s1 σ' H' D I' q
  | ret v => exact wpAny_pure q
  | brk => exact wpAny_pure q
  | cont => exact wpAny_pure q
def appI : ISs → ISs → ISs
  | .nil, b => b
  | .cons s a, b => .cons s (appI a b)
section
variable {X : Cx} {T : List (Addr × Str)} {A : List (Nat × Addr)} {G0 : Hp} {cs : CS}
theorem evSs_app : ∀ {a b : ISs} {ρ : Env}, evSs cs (appI a b) ρ = (evSs cs a ρ).bind fun p => match p with
    | (.next, ρ1) => evSs cs b ρ1
    | p => some p
  | .nil, b, ρ => by rw [show evSs cs .nil ρ = some (.next, ρ) from by rw [evSs]]; rfl
  | .cons s a, b, ρ => by
    show evSs cs (.cons s (appI a b)) ρ = _
    rw [evSs, evSs]
    cases h : evS cs s ρ with
    | none => rfl
    | some p =>
      obtain ⟨o, ρ1⟩ := p
      cases o with
      | next => exact evSs_app (a := a) (b := b) (ρ := ρ1)
      | _ => rfl
theorem sb2_app {l1 l2 : List Stmt} {a b : ISs} (h1 : SB2 X T A G0 cs l1 a) (h2 : SB2 X T A G0 cs l2 b) : SB2 X T A G0 cs (l1 ++ l2) (appI a b) := by
  refine ⟨fun pins s σ H ρ out ρ' I R e => ?_⟩
  rw [evSs_app] at e
  obtain ⟨⟨o1, ρ1⟩, e1, e⟩ := Option.bind_eq_some_iff.mp e
  rw [execs_app]
  refine wpAny_bind (thn (h1.run pins s σ H ρ o1 ρ1 I R e1) fun f s1 q => ?_)
  cases f with
  | next =>
    obtain ⟨σ1, H1, I1, z, R1⟩ := q
    cases z
    exact h2.run pins s1 σ1 H1 ρ1 out ρ' I1 R1 e
  | brk =>
    obtain ⟨σ1, H1, I1, z, R1⟩ := q
    cases z; cases e
    exact wpAny_pure ⟨σ1, H1, I1, rfl, R1⟩
  | cont =>
    obtain ⟨σ1, H1, I1, z, R1⟩ := q
    cases z; cases e
    exact wpAny_pure ⟨σ1, H1, I1, rfl, R1⟩
  | ret u =>
    obtain ⟨v, σ1, H1, I1, r, o, σ2, z, q⟩ := q
    cases z; cases e
    exact wpAny_pure ⟨v, σ1, H1, I1, r, o, σ2, rfl, q⟩
/-- an expression, what may not change chosen where it is read -/
def tEvAny (K : Frag) (A : List (Nat × Addr)) (cs : CS) (ie : IE) : TE := fun σ H Q => ∃ G F ρ o ρ', Rel K A G F H σ ρ ∧ ev cs ie ρ = some (o, ρ') ∧ ∀ v H', Post K A G F σ ρ' o v H' → Q v H'
theorem pe_evAny {e : Expr} {ie : IE} (h : ∀ G, SE X A G cs e ie) : PE X e (tEvAny X.K A cs ie) :=
  ⟨fun pins s σ H Q I ⟨G, F, ρ, o, ρ', R, he, k⟩ => thn ((h G).run pins s σ H F ρ o ρ' I R he) fun u s' ⟨v, H', I', r, p⟩ => ⟨v, H', I', r, k v H' p⟩⟩
/-- a new list of the reading's: may not change from here on -/
theorem own_step {K : Frag} {A : List (Nat × Addr)} {G F H' : Hp} {σ : L2.St} {ρ' : Env} {xs : List PyData} {v : V} (P : Post K A G F σ ρ' (.own xs) v H') : ∃ F' a ws, v = .ref a ∧ Same F F' ∧ G a = none ∧ F' a = none ∧ (∀ b, F b = none → G b ≠ none → F' b = none) ∧ H' a = some (.lst ws) ∧ DnA K F' ws xs ∧ Rel K A (upd G a (.lst ws)) F' H' σ ρ' := by
  obtain ⟨F', x, R, a, rfl, ⟨g, f, ws, h, d⟩, n⟩ := P
  refine ⟨F', a, ws, rfl, x.le, g, f, x.new, h, d, R.reG fun b y hb => ?_⟩
  by_cases z : b = a
  · subst z
    rw [upd_same] at hb
    cases hb
    rw [full_not fun ⟨i, ys, h1, h2⟩ => n i ys h1 h2]
    exact h
  · rw [upd_ne z] at hb
    exact R.leFull _ _ hb
end
end Ev
set_option Elab.async false
set_option linter.all false
set_option maxRecDepth 100000
set_option maxHeartbeats 2000000
/-! EX1: an own exception class whose __init__ says super().__init__(text), then self.f = f: what it leaves. -/
namespace SupX
open PySem PySem.W PySem.Calls PyProof.Rows PySem.HandSPX
/-- what the written part says of the class at C, its __init__ at fI, that one's code object at cda and cell at cc -/
structure SupTxt (prog : Program) (K : Frag) (C fI cda cc : Addr) (qual : Str) (params : Arguments) (body : List Stmt) (scope : Scope) (f : Str) : Prop where
  cls : ∃ nm q N bs bm sn sub ab col dd k0 k1 k2 k3 k5, K.lookup C = some (excClassObj nm q C N bs bm true sn sub ab col dd k0 k1 k2 k3 k5 "ValueError.__new__") ∧ refsVE bm = true
  sa : findIn K (.ref C) "__setattr__" = some (some (.builtin "object.__setattr__"))
  noN : findIn K (.ref C) f = some none
  sup : ks_superIn K C C "__init__" = some (some (.builtin "ValueError.__init__"))
  subC : subIn K (.ref C) (.ref C) = some true
  subV : subIn K (.ref C) (.type "ValueError") = some true
  opq : nsIn K cStatics "thirdparty.any" = some none
  fn : ∃ (oc : Value) (od : Option Addr) (doc pm : Value) (an : Option Addr) (ct : Value) (osl : Array (Option Value)), K.lookup fI = some ⟨oc, od, .func (ksFn "__init__" qual params body scope .none .none doc pm an (.ref cda) ct cc), osl⟩
  code : ∃ (ccl : Value) (cdd : Option Addr) (vs : Array Value) (ccs : Array (Option Value)) (file : Str) (tf : Tok), K.lookup cda = some ⟨ccl, cdd, .fields vs, ccs⟩ ∧ vs[2]? = some (.str file tf) ∧ ((prog.main.file : Str) == file) = true
  cd : codeIn K (.ref cda) qual = true
  cell : ∃ (cl : Value) (cld : Option Addr) (csl : Array (Option Value)), K.lookup cc = some ⟨cl, cld, .cell (some (.ref C)), csl⟩
  sg : nsIn K mainGlobals "super" = some none
  top : (prog.main.scope.names.lookup ("super" : Str)).isSome = false
section
variable {prog : Program} {w : World} {M : Model} {A : Around} {E : Value → Shared → Prop} {h : Heap} {g : Array GenState} {d : Drawn} {t : Nat} {os : OsState}
variable {nm q : Str} {C N : Addr} {bs bm : List Value} {hdct : Bool} {sn : List Str} {sub : List Value} {ab : Bool} {col : Option Bool} {dd : Option Addr} {k0 k1 k2 k3 k5 : Option Value}
theorem call_mw {u e t0 : Addr} {rest : List Value} {Q : Value → Shared → Prop}
    (hC : h.get? C = some (excClassObj nm q C N bs bm hdct sn sub ab col dd k0 k1 k2 k3 k5 "ValueError.__new__")) (he : h.get? e = some (excO C t0)) (hu : h.get? u = some (kxs_mw "ValueError.__init__" e)) (hrest : rest.length ≤ sizeLine)
    (hq : ∀ h' t1, (∀ b o, b ≠ e → h.get? b = some o → h'.get? b = some o) → h'.get? e = some (excO C t1) → Q .none ⟨h', g, d, t, os⟩) :
    wpAny (model prog w) A (call (.ref u) rest) Q E ⟨h, g, d, t, os⟩ := by
  refine wpAny_call (codeAny_of_tree ?_)
  show wpAny _ A.in1 (callAny (.ref u) ⟨rest, []⟩) _ _ _
  simp only [callAny]
  refine wpAny_bind (wpAny_load hu ?_)
  simp only [kxs_mw, show (Value.type "method-wrapper" == Value.type "method" || Value.type "method-wrapper" == Value.type "builtin_function_or_method" || Value.type "method-wrapper" == Value.type "method-wrapper") = true by decide, if_true]
  refine W.KFB.if_so (by decide) ?_
  refine wpAny_bind (ESX.check_bound F.excBase_ValueError hC he rfl ?_)
  refine wpAny_bind (wpAny_pure (wpAny_pure ?_))
  refine ⟨Code.quiet_builtin _ (by decide +kernel), codeAny_builtin F.excBase_ValueError.initEntry ?_⟩
  rw [Around.under_plainId F.excBase_ValueError.init.plain _]
  wp_walk
  refine hq _ h.objs.size (fun b o hb ho => ?_) ?_
  · rw [Heap.get?_update_other _ _ (Ne.symm hb)]
    exact Heap.get?_push_of_some _ ho
  · rw [Heap.get?_update_self _ (Heap.get?_push_of_some _ he) rfl]
    rfl
theorem callWith_mw {i : String} {s : Shared} {pos : Pos} {u x : Addr} {env : Env} {e : Expr} {rest : List Expr} {Q : Value → Shared → Prop}
    (h : wpAny M A (spliced (backTo pos (starEach (e :: rest) env))) (fun vs s₁ => s₁.heap.get? u = some (kxs_mw i x) ∧ wpAny M A (call (.ref u) vs) Q E s₁) E s)
    (he : starEach (e :: rest) env = (false, eval e env) :: starEach rest env := by rfl) (hplain : (backTo pos (starEach rest env)).any (·.1) = false := by rfl) :
    wpAny M A (callWith pos (.ref u) [] (backTo pos (starEach (e :: rest) env)) []) Q E s := by
  rw [he] at h ⊢
  refine kxs_callWith (i := i) (x := x) (by show (false || (backTo pos (starEach rest env)).any (·.1)) = false; rw [hplain]; rfl) ?_
  exact evalArgs_plain h
end
/-- what __init__ leaves of a fresh exception at x -/
structure InitEnd (h h' : Heap) (x C dx t1 : Addr) (f : Str) (v : Value) : Prop where
  keep : ∀ b o, b ≠ x → h.get? b = some o → h'.get? b = some o
  obj : h'.get? x = some { cls := .ref C, dict := some dx, data := .fields #[.ref t1, .none, .none, .none, .bool false, .none] }
  dbig : h.objs.size ≤ dx
  dne : dx ≠ x
  ns : h'.Ns1 dx (fun y => if y = f then some v else none)
/-- the text: super().__init__(text), self.f = f -/
def iB (f text : Str) (k : Nat) (a1 a2 a3 a4 a5 a6 q1 q2 q3 q4 : Pos) : List Stmt := [.Expr (.Call (.Attribute (.Call (.Name "super" a1) [] [] a2) "__init__" a3) [.Constant (.str text) k a4] [] a5) a6, .Assign [.Attribute (.Name "self" q1) f q2] (.Name f q3) q4]
abbrev iS (f : Str) : Scope := { kind := .function, names := [(("self" : Str), .local), (f, .local), (("__class__" : Str), .free), (("super" : Str), .globalImplicit)], isGenerator := false, isCoroutine := false, more := [] }
structure SupS (params : Arguments) (scope : Scope) (f : Str) : Prop where
  bind : ∀ (qual : Str) (body : List Stmt) (doc pm : Value) (an : Option Addr) (cdv ct : Value) (cc : Addr) (a b : Value), bindArgs (ksFn "__init__" qual params body scope .none .none doc pm an cdv ct cc) ⟨[a, b], []⟩ = pure [(("self" : Str), a), (f, b)]
  sup : scope.names.lookup ("super" : Str) = some .globalImplicit
  cl : scope.names.lookup ("__class__" : Str) = some .free
  self : scope.names.lookup ("self" : Str) = some .local
  fld : scope.names.lookup f = some .local
  nc : ∀ x ∈ scope.names, x.2 ≠ .cell
  kind : scope.kind = .function
  co : scope.isCoroutine = false
  gen : scope.isGenerator = false
  par : ∃ ar, (params.posonlyargs ++ params.args).head? = some ar ∧ ar.arg = "self"
  ne : (("self" : Str) == f) = false
  dbg : (f == ("__debug__" : Str)) = false
section
variable {prog : Program} {w : World} {A : Around} {E : Value → Shared → Prop} {R : Result → Shared → Prop} {s : Shared} {K : Frag} {mg : Str → Option Value} {C fI cda cc : Addr} {qual f text : Str} {base : Heap} {params : Arguments}
theorem own_init {a1 a2 a3 a4 a5 a6 q1 q2 q3 q4 : Pos} {k : Nat} (T : SupTxt prog K C fI cda cc qual params (iB f text k a1 a2 a3 a4 a5 a6 q1 q2 q3 q4) (iS f) f) (S : SupS params (iS f) f) (hm : L2.Mod K mg base) (kb : ∀ b o, base.get? b = some o → s.heap.get? b = some o)
    {x t0 : Addr} {v : Value} (X : K.In s.heap) (hlim : s.heap.NoLimit) (hx : s.heap.get? x = some (excO C t0)) (hnx : K.lookup x = none) (hroom : A.depth < recursionLimit)
    {pl : Env → Sem Bool} (hc : ∀ env, eval (.Call (.Attribute (.Call (.Name "super" a1) [] [] a2) "__init__" a3) [.Constant (.str text) k a4] [] a5) env = (do
      let ov ← attributeBase (.Call (.Name "super" a1) [] [] a2) "__init__" env (eval (.Call (.Name "super" a1) [] [] a2) env)
      standAt a3.atName
      let (f, first) ← holding [ov] (getMethod ov "__init__" (pl env))
      callWith a5 f first (backTo a5 (starEach [.Constant (.str text) k a4] env)) []))
    (hq : ∀ h' tk dx t1, InitEnd s.heap h' x C dx t1 f v → R (.ok (.ret .none)) { s with heap := h', toks := tk }) :
    codeAny (model prog w) A (.call (.ref fI) ⟨[.ref x, v], []⟩) R s := by
  obtain ⟨oc, od, doc, pm, an, ct, osl, ho⟩ := T.fn
  obtain ⟨ccl, cdd, vs, ccs, file, tf, hcode, hvs, hfile⟩ := T.code
  obtain ⟨cl, cld, csl, hcell⟩ := T.cell
  obtain ⟨nm, q, N, bs, bm, sn, sub, ab, col, dd, k0, k1, k2, k3, k5, hC, hbm⟩ := T.cls
  obtain ⟨ar, har, hself⟩ := S.par
  have hcl : clsIn K C = some { name := nm, bases := bs, mro := .ref C :: bm, ns := N, qualname := q, hasDict := true, slotNames := sn, subclasses := sub, abstract := ab, collection := col, hasDel := false } := by unfold clsIn; rw [hC] <;> rfl
  refine ks_codeAny_call_defAt (fd := ksFn "__init__" qual params (iB f text k a1 a2 a3 a4 a5 a6 q1 q2 q3 q4) (iS f) .none .none doc pm an (.ref cda) ct cc) (body := iB f text k a1 a2 a3 a4 a5 a6 q1 q2 q3 q4) (binds := [(("self" : Str), .ref x), (f, v)]) hroom (X _ _ ho) rfl hlim (codeRec_of X T.cd) rfl
    (BindsTo.of_eq (S.bind ..)) S.nc (fun y hy => ?_) (fun h₁ hns kk => ?_) S.co S.gen S.kind
  · rcases List.mem_cons.mp hy with rfl | hy
    · exact S.self
    · rcases List.mem_cons.mp hy with rfl | hy
      · exact S.fld
      · cases hy
  obtain ⟨hp, g, dr, tk, os⟩ := s
  have X₁ : K.In h₁ := X.keeps kk
  have hx₁ := kk _ _ hx
  have hlt : x < hp.objs.size := Heap.lt_size hx
  have b1 : ([(("self" : Str), Value.ref x), (f, v)] : List (Str × Value)).reverse.lookup ("self" : Str) = some (.ref x) := by
    show List.lookup _ [(f, v), (("self" : Str), Value.ref x)] = _
    simp [List.lookup, S.ne]
  have b2 : ([(("self" : Str), Value.ref x), (f, v)] : List (Str × Value)).reverse.lookup f = some v := by
    show List.lookup _ [(f, v), (("self" : Str), Value.ref x)] = _
    simp [List.lookup]
  -- super().__init__(text)
  show _root_.PySem.wpAt _ _ _ (execs (iB f text k a1 a2 a3 a4 a5 a6 q1 q2 q3 q4) (ksEnv qual (iS f) hp.objs.size fI (.ref cda) cc)) _ _ _
  unfold iB
  refine ks_wpAt_execs_cons (ks_wpAt_Expr_any (ks_wpAt_MethodCall (he := hc _) ?_))
  have I1 : InstAt h₁ x (excO C t0) C none := ⟨hx₁, rfl, rfl, trivial⟩
  obtain ⟨oD, hD1, hD2⟩ : ∃ oD, h₁.get? C = some oD ∧ oD.data = .cls { name := nm, bases := bs, mro := .ref C :: bm, ns := N, qualname := q, hasDict := true, slotNames := sn, subclasses := sub, abstract := ab, collection := col, hasDel := false } := ⟨_, X₁ _ _ hC, rfl⟩
  obtain ⟨mb, hb1, hb2⟩ := hm.blt
  have kb1 : ∀ b o, base.get? b = some o → h₁.get? b = some o := fun b o e => kk _ _ (kb _ _ e)
  refine ks_wpAt_super_base (env := ksEnv qual (iS f) hp.objs.size fI (.ref cda) cc) S.sup S.cl (by decide) rfl (X₁ _ _ ho) rfl har rfl (X₁ _ _ hcode) rfl hvs hfile T.top ?_
  refine ks_loadName_global S.kind S.sup (loadGlobal_builtin (env := ksEnv qual (iS f) hp.objs.size fI (.ref cda) cc) (hm.glob.keeps kb1) (mg_none_of hm.kin hm.glob T.sg) (hb1.keeps kb1) ((hb2 _ (by decide)).trans PyProof.Rows.Boot.«super») ⟨rfl, ?_⟩)
  refine wpAny_loadName_free S.kind S.cl rfl ⟨_, X₁ _ _ hcell, rfl⟩ ?_
  rw [hself]
  refine wpAny_loadName_local S.kind S.self hns b1 ?_
  refine ks_wpAny_isType_cls hD1 hD2 ⟨rfl, ?_⟩
  refine ks_wpAny_call_super hD1 hD2 hx₁ rfl (fun c e => by cases e) (looks_subIn X₁ T.subC) (fun h2 e2 k2 => ?_)
  have X₂ : K.In h2 := X₁.keeps k2
  have hx2 := k2 _ _ hx₁
  have I2 : InstAt h2 x (excO C t0) C none := ⟨hx2, rfl, rfl, trivial⟩
  have hsup := T.sup
  unfold ks_superIn at hsup
  rw [hcl] at hsup
  have xC : x ≠ C := ks_ne X₁ I1 hcl
  refine kxs_getMethod (K := K) (l₀ := .ref C :: bm) kxs_ValueError e2 (looks_opaque X₂ T.opq) (fun A Q E s kp q => wpAny_bind ((looks_clsIn X₂ hcl) A _ E s kp (wpAny_pure q))) rfl X₂ hsup (I2.type.andThen (looks_subIn X₂ T.subV)) xC (by decide) ?_
  -- the call
  have k3 : ∀ b o, h2.get? b = some o → (h2.push (kxs_mw "ValueError.__init__" x)).get? b = some o := fun b o e => Heap.get?_push_of_some _ e
  have hu : ∀ (s' : Shared), True := fun _ => trivial
  refine callWith_mw (i := "ValueError.__init__") (x := x) ?_
  show wpAny _ _ (spliced ((false, eval (.Constant (.str text) k a4) (ksEnv qual (iS f) hp.objs.size fI (.ref cda) cc)) :: backTo a5 (starEach [] (ksEnv qual (iS f) hp.objs.size fI (.ref cda) cc)))) _ _ _
  refine Calls.spliced_cons (wpAny_Constant_str (k := k) (pos := a4) ?_)
  refine Calls.spliced_nil ⟨Heap.get?_push_size _ rfl, ?_⟩
  refine call_mw (k3 _ _ (X₂ _ _ hC)) (k3 _ _ hx2) (Heap.get?_push_size _ rfl) (by rw [sizeLine_eq]; exact (by decide : 1 ≤ 16777216)) fun h4 t1 k4 hx4 => ?_
  -- self.f = f
  have k14 : ∀ b o, b ≠ x → h₁.get? b = some o → h4.get? b = some o := fun b o hb e => k4 b o hb (k3 _ _ (k2 _ _ e))
  have X₄ : K.In h4 := fun a o e => k4 a o (fun z => by rw [z, hnx] at e; cases e) (k3 _ _ (X₂ _ _ e))
  have hns4 : h4.Ns hp.objs.size fun y => ([(("self" : Str), Value.ref x), (f, v)] : List (Str × Value)).reverse.lookup y := by
    obtain ⟨oL, es, ep, hL, r⟩ := hns
    exact ⟨oL, es, ep, k14 _ _ (Nat.ne_of_gt hlt) hL, r⟩
  refine ks_wpAt_execs_cons (wpAt_of_wpAny (plainObj_wpAny_Assign_Attribute ?_ rfl))
  refine wpAny_Name (wpAny_loadName_local S.kind S.fld hns4 b2 ?_) S.dbg
  refine wpAny_Name (wpAny_loadName_local S.kind S.self hns4 b1 ?_) (by decide)
  refine set_plain X₄ (ox := excO C t1) (od := none) ⟨hx4, rfl, rfl, trivial⟩ T.sa ?_
  refine exc_osa X₄ hx4 hcl (show refsVE (.ref C :: bm) = true from hbm) rfl T.noN (fun h5 tk5 dx k5 dn dne hx5 hn5 => ?_)
  refine wpAt_of_wpAny (wpAny_execs_nil ?_)
  have old : ∀ b o, b ≠ x → hp.get? b = some o → h5.get? b = some o := fun b o hb e => k5 b o hb (k14 b o hb (kk _ _ e))
  refine hq h5 tk5 dx t1 ⟨old, hx5, ?_, dne, hn5⟩
  have z : hp.objs.size < h4.objs.size := hns4.lt
  exact Nat.le_of_lt (Nat.lt_of_lt_of_le z dn)
end
end SupX
set_option Elab.async false
set_option linter.all false
set_option maxRecDepth 100000
set_option maxHeartbeats 2000000
/-! EX2: such an exception is made, raised. -/
namespace SupX
open PySem PySem.W PySem.Calls PyProof.Rows PySem.HandSPX
/-- the class, as the module tells it -/
structure SupCls (prog : Program) (K : Frag) (mg : Str → Option Value) (cn : Str) (C fI cda cc : Addr) (qual : Str) (params : Arguments) (body : List Stmt) (f : Str) : Prop where
  txt : SupTxt prog K C fI cda cc qual params body (iS f) f
  sc : SupS params (iS f) f
  iC : findIn K (.ref C) "__init__" = some (some (.ref fI))
  tC : typeIn K (.ref fI) = some (.type "function")
  kC : keepIn K (.ref C) = true
  exC : subIn K (.ref C) (.type "BaseException") = some true
  tyC : typeIn K (.ref C) = some (.type "type")
  gC : mg cn = some (.ref C)
structure OwnMade (h h' : Heap) (e C d : Addr) (f : Str) (v : Value) : Prop where
  keep : ∀ b o, h.get? b = some o → h'.get? b = some o
  new : h.objs.size ≤ e
  obj : ∃ oe vs, h'.get? e = some oe ∧ oe.cls = .ref C ∧ oe.dict = some d ∧ oe.data = .fields vs ∧ vs[1]? = some .none
  dbig : h.objs.size ≤ d
  dne : d ≠ e
  ns : h'.Ns1 d (fun y => if y = f then some v else none)
theorem one_size (v : Value) : [v].length ≤ sizeLine := by
  rw [sizeLine_eq]
  exact (by decide : 1 ≤ 16777216)
/-- how the text's call of super().__init__ is read -/
def Reads (text : Str) (k : Nat) (a1 a2 a3 a4 a5 : Pos) (pl : Env → Sem Bool) : Prop := ∀ env, eval (.Call (.Attribute (.Call (.Name "super" a1) [] [] a2) "__init__" a3) [.Constant (.str text) k a4] [] a5) env = (do
      let ov ← attributeBase (.Call (.Name "super" a1) [] [] a2) "__init__" env (eval (.Call (.Name "super" a1) [] [] a2) env)
      standAt a3.atName
      let (f, first) ← holding [ov] (getMethod ov "__init__" (pl env))
      callWith a5 f first (backTo a5 (starEach [.Constant (.str text) k a4] env)) [])
section
variable {prog : Program} {w : World} {A : Around} {E : Value → Shared → Prop} {R : Result → Shared → Prop} {s : Shared} {K : Frag} {mg : Str → Option Value} {C fI cda cc : Addr} {cn qual f text : Str} {base : Heap} {params : Arguments}
theorem own_made {a1 a2 a3 a4 a5 a6 q1 q2 q3 q4 : Pos} {k : Nat} (T : SupCls prog K mg cn C fI cda cc qual params (iB f text k a1 a2 a3 a4 a5 a6 q1 q2 q3 q4) f) (hm : L2.Mod K mg base) (kb : ∀ b o, base.get? b = some o → s.heap.get? b = some o)
    {v : Value} (X : K.In s.heap) (hlim : s.heap.NoLimit) (hroom : A.depth + 1 < recursionLimit) {pl : Env → Sem Bool} (hc : Reads text k a1 a2 a3 a4 a5 pl)
    (hq : ∀ h' tk e d, OwnMade s.heap h' e C d f v → R (.ok (.ret (.ref e))) { s with heap := h', toks := tk }) :
    codeAny (model prog w) A (.call (.ref C) ⟨[v], []⟩) R s := by
  obtain ⟨nm, q, N, bs, bm, sn, sub, ab, col, dd, k0, k1, k2, k3, k5, hC, hbm⟩ := T.txt.cls
  obtain ⟨hp, g, dr, tk, os⟩ := s
  have kk : ∀ b o, hp.get? b = some o → ((hp.push (kdv_tup [v])).push (excO C hp.objs.size)).get? b = some o := fun b o e => Heap.get?_push_of_some _ (Heap.get?_push_of_some _ e)
  have hget : ((hp.push (kdv_tup [v])).push (excO C hp.objs.size)).get? (hp.objs.size + 1) = some (excO C hp.objs.size) := by heap_get
  have hnx : K.lookup (hp.objs.size + 1) = none := by
    cases e : K.lookup (hp.objs.size + 1) with
    | none => rfl
    | some o =>
      have z : hp.get? (hp.objs.size + 1) = some o := X _ _ e
      exact absurd (Nat.lt_of_succ_lt (Heap.lt_size z)) (Nat.lt_irrefl _)
  refine call_own F.excBase_ValueError (fun X => refsVE_contains X bm hbm) (X _ _ hC) (looks_findIn X T.iC) (fun self => bind_fn X self T.tC) (one_size v) ?_
  refine own_init (s := ⟨(hp.push (kdv_tup [v])).push (excO C hp.objs.size), g, dr, tk, os⟩) T.txt T.sc hm (fun b o e => kk _ _ (kb _ _ e)) (X.keeps kk) (hlim.keeps kk) hget hnx ?_ hc fun h' tk' dx t1 ⟨k', hx, dn, dne, hns⟩ => ?_
  · show A.depth + 1 < recursionLimit
    exact hroom
  · have old : ∀ b o, hp.get? b = some o → h'.get? b = some o := fun b o e => k' b o (Nat.ne_of_lt (Nat.lt_succ_of_lt (Heap.lt_size e))) (kk b o e)
    have z : hp.objs.size + 1 + 1 ≤ dx := by
      first
        | (simpa only [Heap.size_push] using dn)
        | exact dn
        | (have q := dn; rw [Heap.size_push, Heap.size_push] at q; exact q)
    exact ⟨rfl, hq h' tk' (hp.objs.size + 1) dx ⟨old, Nat.le_succ _, ⟨_, _, hx, rfl, rfl, rfl, rfl⟩, Nat.le_trans (Nat.le_trans (Nat.le_succ _) (Nat.le_succ _)) z, dne, hns⟩⟩
end
end SupX
namespace L2
open PySem PySem.Spec PyProof.Rows SupX
theorem relO_one {v : V} {v' : Value} {fn : Str} (r : RelV v v') (f : Str) : RelO (List.lookup f [(fn, v)]) (if f = fn then some v' else none) := by
  by_cases hw : f = fn
  · subst hw
    rw [if_pos rfl]
    have q : List.lookup f [(f, v)] = some v := by simp [List.lookup]
    rw [q]
    exact r
  · rw [if_neg hw]
    have qw : (f == fn) = false := by simpa using hw
    have q2 : List.lookup f [(fn, v)] = none := by simp [List.lookup, qw]
    rw [q2]
    trivial
section
variable {X : Cx} {C fI cda cc : Addr} {cn qual f text : Str} {params : Arguments}
/-- C(e) -/
def tMkS (C : Addr) (f : Str) (ta : TA) : St → Hp → XK → Prop := fun σ H Q => ta σ H fun vs H1 => ∃ v, vs = [v] ∧ ∀ d, H1 d = none → Q (.ref C) (some d) (upd H1 d (.xd [(f, v)]))
theorem pmk_sup {a : Expr} {ta : TA} {p pos : Pos} {j : Nat} {a1 a2 a3 a4 a5 a6 q1 q2 q3 q4 : Pos} {k : Nat} (T : SupCls X.prog X.K X.mg cn C fI cda cc qual params (iB f text k a1 a2 a3 a4 a5 a6 q1 q2 q3 q4) f) {pl : Env → Sem Bool} (hc : Reads text k a1 a2 a3 a4 a5 pl) (hr : Room j X.A) (ha : PA X [a] ta) (hg : Gl X cn)
    (hdb : (cn == ("__debug__" : Str)) = false := by decide) (he : starEach (a :: []) X.env = (false, eval a X.env) :: starEach [] X.env := by rfl) (hpl : (backTo pos (starEach [] X.env)).any (·.1) = false := by rfl) :
    PMk X (.Call (.Name cn p) [a] [] pos) (tMkS C f ta) := by
  intro pins s σ H Q I h
  refine wpAny_Call_Name_kw (ld_glob I hg T.gC ?_ hdb)
  refine PySem.W.callWith_K (h₀ := X.base) I.ok.mod.kin T.kC (thn (ha.run pos pins s σ H _ I h) fun us s1 hh => ?_) he hpl
  obtain ⟨vs, H1, I1, r1, v, ev, q1⟩ := hh
  subst ev
  refine ⟨I1.kIn, ?_⟩
  cases r1 with
  | cons rv rn =>
    rename_i v' us'
    cases rn
    show wpAny _ _ (call (.ref C) [v']) _ _ _
    have hlim := I1.nolimit
    have kb : ∀ b o, X.base.get? b = some o → s1.heap.get? b = some o := I1.bk
    obtain ⟨hp, g, dr, tk, os⟩ := s1
    refine wpAny_call (own_made T I1.ok.mod kb I1.kIn hlim (by have := hr.dp; omega) hc fun h' tk' e d M => ?_)
    show MkP X pins σ Q (.ref e) ⟨h', g, dr, tk', os⟩
    obtain ⟨oe, fv, hoe, hc, hd, hdat, h1⟩ := M.obj
    have hns := M.ns
    obtain ⟨G', g1, g2⟩ := restrict h' fun b => decide (b ≠ e)
    have gk : ∀ b, b ≠ e → G'.get? b = h'.get? b := fun b hb => g1 b (decide_eq_true hb)
    have ge : G'.get? e = none := g2 e (by simp)
    have old : ∀ b o, hp.get? b = some o → G'.get? b = some o := fun b o q => (gk b (Nat.ne_of_lt (Nat.lt_of_lt_of_le (Heap.lt_size q) M.new))).trans (M.keep b o q)
    have ob : ObjOk X.prog X.w (upd H1 d (.xd [(f, v)])) G' d (.xd [(f, v)]) :=
      ⟨_, hns.at (fun o q => (gk d M.dne).trans q), fun y => relO_one rv y⟩
    have J : Inv X pins σ (upd H1 d (.xd [(f, v)])) ⟨G', g, dr, tk', os⟩ := I1.laid (t' := tk') old M.dbig ob
    refine ⟨e, oe, fv, ⟨G', g, dr, tk', os⟩, _, .ref C, some d, rfl, J, fun b o q => ?_, ge, hoe, ⟨hc, hd⟩, hdat, h1, ?_, rfl, I1.bare, raises_own T.exC T.tyC, q1 d (I1.hok.fresh M.dbig)⟩
    · by_cases hb : b = e
      · have q' : G'.get? b = some o := q
        rw [hb, ge] at q'; cases q'
      · exact (gk b hb).symm.trans q
    · rw [upd_ne (Ne.symm M.dne)]
      exact I1.hok.fresh M.new
/-- raise C(e) -/
def tRaiseS (C : Addr) (f : Str) (W : WX) (ta : TA) : TS := fun _ σ H => tMkS C f ta σ H fun cls d H' => W cls d σ H'
theorem ps_raiseS {a : Expr} {ta : TA} {W : WX} {p pos pos2 : Pos} {j : Nat} {a1 a2 a3 a4 a5 a6 q1 q2 q3 q4 : Pos} {k : Nat} (hcm : X.calm = true) (T : SupCls X.prog X.K X.mg cn C fI cda cc qual params (iB f text k a1 a2 a3 a4 a5 a6 q1 q2 q3 q4) f) {pl : Env → Sem Bool} (hc : Reads text k a1 a2 a3 a4 a5 pl) (hr : Room j X.A) (tk : Takes X W) (ha : PA X [a] ta) (hg : Gl X cn)
    (hdb : (cn == ("__debug__" : Str)) = false := by decide) (he : starEach (a :: []) X.env = (false, eval a X.env) :: starEach [] X.env := by rfl) (hpl : (backTo pos (starEach [] X.env)).any (·.1) = false := by rfl) :
    PS X (.Raise (some (.Call (.Name cn p) [a] [] pos)) none pos2) (tRaiseS C f W ta) := ps_raise hcm tk (pmk_sup T hc hr ha hg hdb he hpl)
end
end L2
namespace L2
open PySem PySem.Spec PyProof.Rows SupX
/-- the text of __init__ -/
def IsInit (body : List Stmt) (f : Str) : Prop := ∃ (text : Str) (k : Nat) (a1 a2 a3 a4 a5 a6 q1 q2 q3 q4 : Pos) (pl : Env → Sem Bool), body = iB f text k a1 a2 a3 a4 a5 a6 q1 q2 q3 q4 ∧ Reads text k a1 a2 a3 a4 a5 pl
theorem ps_raiseI {X : Cx} {C fI cda cc : Addr} {cn qual f : Str} {params : Arguments} {body : List Stmt} {a : Expr} {ta : TA} {W : WX} {p pos pos2 : Pos} {j : Nat} (ib : IsInit body f) (T : SupCls X.prog X.K X.mg cn C fI cda cc qual params body f) (hcm : X.calm = true) (hr : Room j X.A) (tk : Takes X W) (ha : PA X [a] ta) (hg : Gl X cn)
    (hdb : (cn == ("__debug__" : Str)) = false := by decide) (he : starEach (a :: []) X.env = (false, eval a X.env) :: starEach [] X.env := by rfl) (hpl : (backTo pos (starEach [] X.env)).any (·.1) = false := by rfl) :
    PS X (.Raise (some (.Call (.Name cn p) [a] [] pos)) none pos2) (tRaiseS C f W ta) := by
  obtain ⟨text, k, a1, a2, a3, a4, a5, a6, q1, q2, q3, q4, pl, rfl, hc⟩ := ib
  exact ps_raiseS hcm T hc hr tk ha hg hdb he hpl
end L2
set_option Elab.async false
set_option linter.all false
set_option maxRecDepth 100000
set_option maxHeartbeats 2000000
/-! E1: an own exception class called, by place or by names. -/
namespace PySem
namespace ExW
open PySem.W PySem.Calls PyProof.Rows PySem.HandSPX
section
variable {M : Model} {A : Around} {E : Value → Shared → Prop} {h : Heap} {g : Array GenState} {d : Drawn} {t : Nat} {os : OsState} {bmB : List Value} {B newId initId : String}
variable {nm q : Str} {C N : Addr} {bs bm : List Value} {hd : Bool} {sn : List Str} {sub : List Value} {ab : Bool} {col : Option Bool} {dd : Option Addr} {k0 k1 k2 k3 k5 : Option Value}
theorem check_newK (F : ExcBaseFacts B newId initId bmB) (hT : ∀ X : String, bm.contains (.type X) = bmB.contains (.type X)) {xs : List Value} {kw : List (Str × Value)} {Q : Unit → Shared → Prop}
    (hC : h.get? C = some (excClassObj nm q C N bs bm hd sn sub ab col dd k0 k1 k2 k3 k5 newId)) (z : Q () ⟨h, g, d, t, os⟩) : wpAny M A (checkBuiltinCall newId ⟨.ref C :: xs, kw⟩) Q E ⟨h, g, d, t, os⟩ := by
  have c1 : (Value.ref C :: bm).contains (.type B) = true := by rw [List.contains_cons, hT, F.hasB, Bool.or_true]
  have c2 := F.noStar
  simp only [checkBuiltinCall, F.newKind, F.newSplit, F.newRow]
  repeat (first | refine wpAny_loadPart_at hC ?_ | (refine wpAny_isSubtype_exc hC ?_; rw [c1]) | refine wpAny_staticBase_exc hC ?_ | refine wpAny_madeBy_exc hC ?_ | simp only [bne_self_eq_false, Bool.false_eq_true, if_false] | wp_step)
  exact z
end
section
variable {prog : Program} {w : World} {A : Around} {E : Value → Shared → Prop} {R : Result → Shared → Prop} {h : Heap} {g : Array GenState} {d : Drawn} {t : Nat} {os : OsState} {bmB : List Value} {B newId initId : String}
variable {nm q : Str} {C N : Addr} {bs bm : List Value} {hd : Bool} {sn : List Str} {sub : List Value} {ab : Bool} {col : Option Bool} {dd : Option Addr} {k0 k1 k2 k3 k5 : Option Value}
theorem newK (F : ExcBaseFacts B newId initId bmB) (hT : ∀ X : String, bm.contains (.type X) = bmB.contains (.type X)) {xs : List Value} {kw : List (Str × Value)}
    (hC : h.get? C = some (excClassObj nm q C N bs bm hd sn sub ab col dd k0 k1 k2 k3 k5 newId))
    (z : R (.ok (.ret (.ref (h.objs.size + 1)))) ⟨(h.push (kdv_tup xs)).push (excO C h.objs.size), g, d, t, os⟩) (hl : xs.length ≤ sizeLine) :
    codeAny (model prog w) A (.builtin newId ⟨.ref C :: xs, kw⟩) R ⟨h, g, d, t, os⟩ := by
  have e0 := F.ends
  have c1 : (Value.ref C :: bm).contains (.type B) = true := by rw [List.contains_cons, hT, F.hasB, Bool.or_true]
  have c2 : (Value.ref C :: bm).contains (.type "AttributeError") = false := by rw [List.contains_cons, hT, F.noAttr]; rfl
  have c3 : (Value.ref C :: bm).contains (.type "NameError") = false := by rw [List.contains_cons, hT, F.noName]; rfl
  refine codeAny_builtinAt F.entry ?_
  unfold Builtin.«BaseException.__new__»
  refine wpAt_bind (show wpAt _ _ _ (stack >>= _) _ _ _ from wpAt_bind (wpAt_stack fun p below => wpAt_of_wpAny ?_))
  wp_walk
  refine wpAt_of_wpAny ?_
  rw [F.owner]
  repeat (first | with_reducible refine wpAny_madeHere_exc F.canon hC ?_ | with_reducible refine wpAny_loadPart_at hC ?_ | (with_reducible refine wpAny_isSubtype_exc hC ?_; first | rw [c1] | rw [c2] | rw [c3]) | wp_step)
  rw [Heap.size_push]
  exact z
theorem tcallK (F : ExcBaseFacts B newId initId bmB) (hT : ∀ X : String, bm.contains (.type X) = bmB.contains (.type X)) {xs : List Value} {kw : List (Str × Value)} {fI : Addr} {Q : Fin → Shared → Prop}
    (hC : h.get? C = some (excClassObj nm q C N bs bm hd sn sub ab col dd k0 k1 k2 k3 k5 newId)) (hi : W.Looks (model prog w) h (typeLookup (.ref C) "__init__") (some (.ref fI))) (hb : ∀ self, W.Looks (model prog w) h (bindSpecial (.ref fI) self) (.ref fI, [self])) (hl : xs.length ≤ sizeLine)
    (z : codeAny (model prog w) A (.call (.ref fI) ⟨.ref (h.objs.size + 1) :: xs, kw⟩) (fun r s' => match r with | .ok (.ret v) => v = .none ∧ Q (.done (.ret (.ref (h.objs.size + 1)))) s' | .ok _ => False | .error e => E e s') ⟨(h.push (kdv_tup xs)).push (excO C h.objs.size), g, d, t, os⟩) :
    wpAny (model prog w) A (Builtin.«type.__call__» ⟨.ref C :: xs, kw⟩) Q E ⟨h, g, d, t, os⟩ := by
  repeat (first | with_reducible refine wpAny_loadPart_at hC ?_ | with_reducible refine wpAny_madeBy_exc hC ?_ | wp_step)
  refine codeAny_call_builtin_code (Code.quiet_builtin _ F.quiet) (check_newK F hT hC (newK F hT hC ?_ hl))
  show wpAny _ _ _ _ _ _
  have kk : ∀ b o, h.get? b = some o → ((h.push (kdv_tup xs)).push (excO C h.objs.size)).get? b = some o := fun b o e => Heap.get?_push_of_some _ (Heap.get?_push_of_some _ e)
  have h1 := kk _ _ hC
  have h2 : ((h.push (kdv_tup xs)).push (excO C h.objs.size)).get? (h.objs.size + 1) = some (excO C h.objs.size) := by heap_get
  have h3 : (Value.ref C :: bm).contains (.ref C) = true := by simp
  have l1 := hi.keeps kk
  have l2 := (hb (.ref (h.objs.size + 1))).keeps kk
  unfold isInstance
  repeat (first | with_reducible refine wpAny_loadPart_at h2 ?_ | (with_reducible refine wpAny_isSubtype_exc h1 ?_; rw [h3]) | wp_step)
  show wpAny _ _ (typeLookup (.ref C) _) _ _ _
  refine l1.at (wpAny_holding (wpAny_bind (l2.at (wpAny_bind (wpAny_call (codeAny_mono z fun r s' y => ?_))))))
  rcases r with e | (v | _ | _ | _) <;> first | exact y | exact y.elim | skip
  obtain ⟨rfl, y⟩ := y
  first
    | exact wpAny_pure (wpAny_pure y)
    | (wp_walk; exact y)
theorem check_tcK {xs : List Value} {kw : List (Str × Value)} {Q : Unit → Shared → Prop} (hC : h.get? C = some (excClassObj nm q C N bs bm hd sn sub ab col dd k0 k1 k2 k3 k5 newId)) (z : Q () ⟨h, g, d, t, os⟩) : wpAny (model prog w) A (checkBuiltinCall "type.__call__" ⟨.ref C :: xs, kw⟩) Q E ⟨h, g, d, t, os⟩ := by
  have y3 := tc_sub
  have y4 : (⟨h, g, d, t, os⟩ : Shared).TypeIs (.ref C) "type" := ⟨_, hC, rfl⟩
  simp only [checkBuiltinCall, tc_kind, tc_split]
  repeat (any_goals (first | assumption | with_reducible refine wpAny_loadPart_at hC ?_ | with_reducible refine wpAny_onRaise ?_ | with_reducible refine wpAny_map ?_ | wp_step))
theorem callK (F : ExcBaseFacts B newId initId bmB) (hT : ∀ X : String, bm.contains (.type X) = bmB.contains (.type X)) {xs : List Value} {kw : List (Str × Value)} {fI : Addr}
    (hC : h.get? C = some (excClassObj nm q C N bs bm hd sn sub ab col dd k0 k1 k2 k3 k5 newId)) (hi : W.Looks (model prog w) h (typeLookup (.ref C) "__init__") (some (.ref fI))) (hb : ∀ self, W.Looks (model prog w) h (bindSpecial (.ref fI) self) (.ref fI, [self])) (hl : xs.length ≤ sizeLine)
    (z : codeAny (model prog w) (A.under (.builtin "type.__call__" ⟨.ref C :: xs, kw⟩)) (.call (.ref fI) ⟨.ref (h.objs.size + 1) :: xs, kw⟩) (W.InitBack (h.objs.size + 1) R) ⟨(h.push (kdv_tup xs)).push (excO C h.objs.size), g, d, t, os⟩) :
    codeAny (model prog w) A (.call (.ref C) ⟨xs, kw⟩) R ⟨h, g, d, t, os⟩ := by
  have y1 := tc_lookup
  have y2 := tc_bind (.ref C)
  have y3 : (⟨h, g, d, t, os⟩ : Shared).TypeIs (.ref C) "type" := ⟨_, hC, rfl⟩
  refine codeAny_of_tree (show wpAny _ _ (callAny (.ref C) _) _ _ _ from ?_)
  repeat (any_goals (first | assumption | with_reducible refine wpAny_loadPart_at hC ?_ | wp_step))
  refine ⟨rfl, codeAny_call_builtin_at (Code.quiet_builtin _ (by decide +kernel)) entry_typeCall (check_tcK hC (tcallK F hT hC hi hb hl (codeAny_mono z fun r s' y => ?_)))⟩
  rcases r with e | (v | _ | _ | _) <;> exact y
end
end ExW
end PySem
set_option Elab.async false
set_option linter.all false
set_option maxRecDepth 100000
set_option maxHeartbeats 2000000
/-! E2: __init__ of an own exception class with any number of fields: super().__init__(text), self.f = f, .. -/
namespace SupX
open PySem PySem.W PySem.Calls PyProof.Rows PySem.HandSPX
/-- one store of self: its name, its places -/
structure FP where
  f : Str
  q1 : Pos
  q2 : Pos
  q3 : Pos
  q4 : Pos
def stB (x : FP) : Stmt := .Assign [.Attribute (.Name "self" x.q1) x.f x.q2] (.Name x.f x.q3) x.q4
def supB (text : Str) (k : Nat) (a1 a2 a3 a4 a5 a6 : Pos) : Stmt := .Expr (.Call (.Attribute (.Call (.Name "super" a1) [] [] a2) "__init__" a3) [.Constant (.str text) k a4] [] a5) a6
/-- what the written part says -/
structure SupTxtN (prog : Program) (K : Frag) (C fI cda cc : Addr) (qual : Str) (params : Arguments) (body : List Stmt) (scope : Scope) (fs : List Str) : Prop where
  cls : ∃ nm q N bs bm sn sub ab col dd k0 k1 k2 k3 k5, K.lookup C = some (excClassObj nm q C N bs bm true sn sub ab col dd k0 k1 k2 k3 k5 "ValueError.__new__") ∧ refsVE bm = true
  sa : findIn K (.ref C) "__setattr__" = some (some (.builtin "object.__setattr__"))
  noN : ∀ f ∈ fs, findIn K (.ref C) f = some none
  sup : ks_superIn K C C "__init__" = some (some (.builtin "ValueError.__init__"))
  subC : subIn K (.ref C) (.ref C) = some true
  subV : subIn K (.ref C) (.type "ValueError") = some true
  opq : nsIn K cStatics "thirdparty.any" = some none
  fn : ∃ (oc : Value) (od : Option Addr) (doc pm : Value) (an : Option Addr) (ct : Value) (osl : Array (Option Value)), K.lookup fI = some ⟨oc, od, .func (ksFn "__init__" qual params body scope .none .none doc pm an (.ref cda) ct cc), osl⟩
  code : ∃ (ccl : Value) (cdd : Option Addr) (vs : Array Value) (ccs : Array (Option Value)) (file : Str) (tf : Tok), K.lookup cda = some ⟨ccl, cdd, .fields vs, ccs⟩ ∧ vs[2]? = some (.str file tf) ∧ ((prog.main.file : Str) == file) = true
  cd : codeIn K (.ref cda) qual = true
  cell : ∃ (cl : Value) (cld : Option Addr) (csl : Array (Option Value)), K.lookup cc = some ⟨cl, cld, .cell (some (.ref C)), csl⟩
  sg : nsIn K mainGlobals "super" = some none
  top : (prog.main.scope.names.lookup ("super" : Str)).isSome = false
/-- its parameters and names -/
structure SupSN (params : Arguments) (scope : Scope) (fs : List Str) : Prop where
  sup : scope.names.lookup ("super" : Str) = some .globalImplicit
  cl : scope.names.lookup ("__class__" : Str) = some .free
  self : scope.names.lookup ("self" : Str) = some .local
  fld : ∀ f ∈ fs, scope.names.lookup f = some .local
  nc : ∀ x ∈ scope.names, x.2 ≠ .cell
  kind : scope.kind = .function
  co : scope.isCoroutine = false
  gen : scope.isGenerator = false
  par : ∃ ar, (params.posonlyargs ++ params.args).head? = some ar ∧ ar.arg = "self"
  nd : (("self" : Str) :: fs).Nodup
  dbg : ∀ f ∈ fs, (f == ("__debug__" : Str)) = false
abbrev exObj (C t1 : Addr) (d : Option Addr) : Obj := { cls := .ref C, dict := d, data := .fields #[.ref t1, .none, .none, .none, .bool false, .none] }
/-- what __init__ leaves of a fresh exception at x; h: the heap ahead -/
structure InitN (h h' : Heap) (x C : Addr) (d : Option Addr) (al : List (Str × Value)) : Prop where
  keep : ∀ b o, b ≠ x → h.get? b = some o → h'.get? b = some o
  obj : ∃ t1, h'.get? x = some (exObj C t1 d)
  dct : match d with
    | none => al = []
    | some dx => h.objs.size ≤ dx ∧ dx ≠ x ∧ al ≠ [] ∧ h'.Ns1 dx (fun y => al.lookup y)
theorem look_putV (f : Str) (v : Value) (al : List (Str × Value)) : (fun y => if y = f then some v else al.lookup y) = fun y => ((f, v) :: al).lookup y := by
  funext y
  show _ = List.lookup y ((f, v) :: al)
  by_cases h : y = f
  · subst h
    simp [List.lookup]
  · have h' : (y == f) = false := by simpa using h
    simp [List.lookup, h, h']
theorem withinV : ∀ al : List (Str × Value), Within (fun y => al.lookup y) (al.map (·.1)) := fun al y hy => by
  obtain ⟨v, hv⟩ := Option.ne_none_iff_exists'.mp hy
  exact List.mem_map.mpr ⟨(y, v), PySem.mem_of_lookup hv, rfl⟩
section
variable {prog : Program} {w : World} {A : Around} {E : Value → Shared → Prop} {K : Frag} {C L : Addr} {hp : Heap} {g : Array GenState} {dr : Drawn} {os : OsState} {env : Env} {m : Str → Option Value} {x : Addr} {cd : ClassData}
theorem stores {Q : Flow → Shared → Prop} (hsa : findIn K (.ref C) "__setattr__" = some (some (.builtin "object.__setattr__"))) (hcl : clsIn K C = some cd) (hm : refsVE cd.mro = true) (hhd : cd.hasDict = true) (hk : env.scope.kind = .function) (hself : env.kindOf ("self" : Str) = some .local) (ms : m "self" = some (.ref x)) (hLx : env.locals ≠ x) (hLh : hp.objs.size ≤ env.locals) (X : K.In hp) (hnx : K.lookup x = none) :
    ∀ (fs : List (FP × Value)) (h4 : Heap) (tk : Nat) (d : Option Addr) (al : List (Str × Value)), (∀ p ∈ fs, env.kindOf p.1.f = some .local ∧ m p.1.f = some p.2 ∧ findIn K (.ref C) p.1.f = some none ∧ (p.1.f == ("__debug__" : Str)) = false) → al.length + fs.length ≤ 1000 →
      h4.Ns env.locals m → (∀ dx, d = some dx → env.locals ≠ dx) → InitN hp h4 x C d al → hp.objs.size ≤ h4.objs.size →
      (∀ h5 tk5 d5, InitN hp h5 x C d5 ((fs.map fun p => (p.1.f, p.2)).reverse ++ al) → Q .next ⟨h5, g, dr, tk5, os⟩) → wpAny (model prog w) A (execs (fs.map fun p => stB p.1) env) Q E ⟨h4, g, dr, tk, os⟩
  | [], h4, tk, d, al, _, _, _, _, I, _, hq => wpAny_execs_nil (hq h4 tk d I)
  | (p, v) :: fs, h4, tk, d, al, hf, hl, hns, hd, I, hz, hq => by
    obtain ⟨f1, f2, f3, f4⟩ := hf _ List.mem_cons_self
    have hr := fun p hp => hf p (List.mem_cons_of_mem _ hp)
    have Kn : ∀ b, hp.objs.size ≤ b → K.lookup b = none := fun b hb => by
      cases q : K.lookup b with
      | none => rfl
      | some o => exact absurd (Heap.lt_size (X _ _ q)) (Nat.not_lt.mpr hb)
    have X4 : K.In h4 := fun b o e => I.keep b o (fun z => by rw [z, hnx] at e; cases e) (X _ _ e)
    have eR : ∀ z : List (Str × Value), (((p, v) :: fs).map fun p => (p.1.f, p.2)).reverse ++ z = (fs.map fun p => (p.1.f, p.2)).reverse ++ ((p.f, v) :: z) := fun z => by simp
    have nsK : ∀ {h5 : Heap} {y : Addr}, env.locals ≠ y → (∀ b o, b ≠ y → h4.get? b = some o → h5.get? b = some o) → h5.Ns env.locals m := fun {h5 y} ne kk => by
      obtain ⟨oL, es, ep, r1, r2⟩ := hns
      exact ⟨oL, es, ep, kk _ _ ne r1, r2⟩
    show wpAny _ _ (execs (stB p :: fs.map fun p => stB p.1) env) _ _ _
    refine wpAny_execs_cons (plainObj_wpAny_Assign_Attribute ?_ rfl)
    refine wpAny_Name (wpAny_loadName_local hk f1 hns f2 (wpAny_Name (wpAny_loadName_local hk hself hns ms ?_) (by decide))) f4
    obtain ⟨t1, hx⟩ := I.obj
    have hdc := I.dct
    cases d with
    | none =>
      obtain rfl : al = [] := hdc
      refine set_plain X4 (ox := exObj C t1 none) (od := none) ⟨hx, rfl, rfl, trivial⟩ hsa ?_
      refine exc_osa X4 hx hcl hm hhd f3 (fun h5 tk5 dx k5 dn dne hx5 hn5 => ?_)
      refine stores hsa hcl hm hhd hk hself ms hLx hLh X hnx fs h5 tk5 (some dx) [(p.f, v)] hr (by simp at hl ⊢; omega) (nsK hLx k5) (fun dx' e => ?_) ⟨fun b o hb e => k5 b o hb (I.keep b o hb e), ⟨t1, hx5⟩, Nat.le_trans hz dn, dne, by simp, ?_⟩ ?_ fun h6 tk6 d6 J => hq h6 tk6 d6 ?_
      · cases e
        exact Nat.ne_of_lt (Nat.lt_of_lt_of_le hns.lt dn)
      · rw [← look_putV]
        exact hn5
      · exact Nat.le_of_lt (Nat.lt_of_le_of_lt (Nat.le_trans hz dn) (Heap.Ns1.lt hn5))
      · rw [eR []]
        exact J
    | some dx =>
      obtain ⟨h1, h2, _, h3⟩ := hdc
      obtain ⟨oD, _, _, hoD, _, _⟩ := h3.count (withinV al)
      refine set_plain X4 (ox := exObj C t1 (some dx)) (od := some oD) ⟨hx, rfl, rfl, hoD⟩ hsa ?_
      refine PySem.OEX.osa_old X4 hx h3 (withinV al) (by rw [List.length_map]; simp at hl; omega) hcl hm hhd f3 (fun h5 tk5 k5 hn5 => ?_)
      have hx5 := k5 _ _ (Ne.symm h2) hx
      refine stores hsa hcl hm hhd hk hself ms hLx hLh X hnx fs h5 tk5 (some dx) ((p.f, v) :: al) hr (by simp at hl ⊢; omega) (nsK (hd dx rfl) k5) hd ⟨fun b o hb e => k5 b o (Nat.ne_of_lt (Nat.lt_of_lt_of_le (Heap.lt_size e) h1)) (I.keep b o hb e), ⟨t1, hx5⟩, h1, h2, by simp, ?_⟩ ?_ fun h6 tk6 d6 J => hq h6 tk6 d6 ?_
      · rw [← look_putV]
        exact hn5
      · exact Nat.le_of_lt (Nat.lt_of_le_of_lt h1 (Heap.Ns1.lt hn5))
      · rw [eR al]
        exact J
theorem look_rev : ∀ {l : List (Str × Value)} {k : Str} {v : Value}, (l.map (·.1)).Nodup → (k, v) ∈ l → l.reverse.lookup k = some v := by
  have key : ∀ (l : List (Str × Value)) (k : Str) (v : Value), (l.map (·.1)).Nodup → (k, v) ∈ l → l.lookup k = some v := by
    intro l k v
    induction l with
    | nil => exact fun _ h => by cases h
    | cons p l ih =>
      obtain ⟨k', v'⟩ := p
      intro nd h
      rw [List.map_cons, List.nodup_cons] at nd
      rcases List.mem_cons.mp h with e | h1
      · cases e
        simp [List.lookup]
      · have ne : (k == k') = false := by
          rw [beq_eq_false_iff_ne]
          intro z
          subst z
          exact nd.1 (List.mem_map.mpr ⟨_, h1, rfl⟩)
        simp only [List.lookup, ne]
        exact ih nd.2 h1
  intro l k v nd h
  refine key _ k v ?_ (List.mem_reverse.mpr h)
  rw [List.map_reverse]
  exact (List.reverse_perm _).nodup_iff.mpr nd
theorem zip_fst : ∀ {fs : List FP} {vs : List Value}, vs.length = fs.length → ((fs.map (·.f)).zip vs).map (·.1) = fs.map (·.f)
  | [], [], _ => rfl
  | p :: fs, v :: vs, h => by
    show p.f :: ((fs.map (·.f)).zip vs).map (·.1) = p.f :: _
    rw [zip_fst (fs := fs) (vs := vs) (by simpa using h)]
theorem zip_fp : ∀ {fs : List FP} {vs : List Value}, vs.length = fs.length → (fs.zip vs).map (fun p => (p.1.f, p.2)) = (fs.map (·.f)).zip vs ∧ (fs.zip vs).map (fun p => stB p.1) = fs.map stB
  | [], [], _ => ⟨rfl, rfl⟩
  | p :: fs, v :: vs, h => by
    obtain ⟨h1, h2⟩ := zip_fp (fs := fs) (vs := vs) (by simpa using h)
    simp only [List.zip_cons_cons, List.map_cons, h1, h2, and_self]
/-- how the arguments are bound -/
def BindsI (params : Arguments) (body : List Stmt) (scope : Scope) (fs : List Str) (pos : List Value) (kw : List (Str × Value)) (vs : List Value) : Prop :=
  ∀ (qual : Str) (doc pm : Value) (an : Option Addr) (cdv ct : Value) (cc : Addr) (self : Value), bindArgs (ksFn "__init__" qual params body scope .none .none doc pm an cdv ct cc) ⟨self :: pos, kw⟩ = pure ((("self" : Str), self) :: fs.zip vs)
variable {A : Around} {R : Result → Shared → Prop} {s : Shared} {mg : Str → Option Value} {fI cda cc : Addr} {qual text : Str} {base : Heap} {params : Arguments} {scope : Scope}
theorem own_initN {fps : List FP} {a1 a2 a3 a4 a5 a6 : Pos} {k : Nat} (T : SupTxtN prog K C fI cda cc qual params (supB text k a1 a2 a3 a4 a5 a6 :: fps.map stB) scope (fps.map (·.f))) (S : SupSN params scope (fps.map (·.f))) (hm : L2.Mod K mg base) (kb : ∀ b o, base.get? b = some o → s.heap.get? b = some o)
    {x t0 : Addr} {pos vs : List Value} {kw : List (Str × Value)} (hB : BindsI params (supB text k a1 a2 a3 a4 a5 a6 :: fps.map stB) scope (fps.map (·.f)) pos kw vs) (hv : vs.length = fps.length) (hfl : fps.length ≤ 100) (X : K.In s.heap) (hlim : s.heap.NoLimit) (hx : s.heap.get? x = some (excO C t0)) (hnx : K.lookup x = none) (hroom : A.depth < recursionLimit)
    {pl : Env → Sem Bool} (hc : Reads text k a1 a2 a3 a4 a5 pl)
    (hq : ∀ h' tk d, InitN s.heap h' x C d ((fps.map (·.f)).zip vs).reverse → R (.ok (.ret .none)) { s with heap := h', toks := tk }) :
    codeAny (model prog w) A (.call (.ref fI) ⟨.ref x :: pos, kw⟩) R s := by
  obtain ⟨oc, od, doc, pm, an, ct, osl, ho⟩ := T.fn
  obtain ⟨ccl, cdd, cvs, ccs, file, tf, hcode, hvs, hfile⟩ := T.code
  obtain ⟨cl, cld, csl, hcell⟩ := T.cell
  obtain ⟨nm, q, N, bs, bm, sn, sub, ab, col, dd, k0, k1, k2, k3, k5, hC, hbm⟩ := T.cls
  obtain ⟨ar, har, hself⟩ := S.par
  have hcl : clsIn K C = some { name := nm, bases := bs, mro := .ref C :: bm, ns := N, qualname := q, hasDict := true, slotNames := sn, subclasses := sub, abstract := ab, collection := col, hasDel := false } := by unfold clsIn; rw [hC] <;> rfl
  have zf := zip_fst hv
  have nd : ((("self" : Str), Value.ref x) :: (fps.map (·.f)).zip vs).map (·.1) = ("self" : Str) :: fps.map (·.f) := by rw [List.map_cons, zf]
  refine ks_codeAny_call_defAt (fd := ksFn "__init__" qual params (supB text k a1 a2 a3 a4 a5 a6 :: fps.map stB) scope .none .none doc pm an (.ref cda) ct cc) (body := supB text k a1 a2 a3 a4 a5 a6 :: fps.map stB) (binds := (("self" : Str), .ref x) :: (fps.map (·.f)).zip vs) hroom (X _ _ ho) rfl hlim (codeRec_of X T.cd) rfl
    (BindsTo.of_eq (hB qual doc pm an (.ref cda) ct cc (.ref x))) S.nc (fun y hy => ?_) (fun h₁ hns kk => ?_) S.co S.gen S.kind
  · rcases List.mem_cons.mp hy with rfl | hy
    · exact S.self
    · exact S.fld _ (by rw [← zf]; exact List.mem_map_of_mem hy)
  obtain ⟨hp, g, dr, tk, os⟩ := s
  have X₁ : K.In h₁ := X.keeps kk
  have hx₁ := kk _ _ hx
  have hlt : x < hp.objs.size := Heap.lt_size hx
  have b1 : ((("self" : Str), Value.ref x) :: (fps.map (·.f)).zip vs).reverse.lookup ("self" : Str) = some (.ref x) := look_rev (by rw [nd]; exact S.nd) List.mem_cons_self
  show _root_.PySem.wpAt _ _ _ (execs (supB text k a1 a2 a3 a4 a5 a6 :: fps.map stB) (ksEnv qual scope hp.objs.size fI (.ref cda) cc)) _ _ _
  unfold supB
  have hint : interactive (ksEnv qual scope hp.objs.size fI (.ref cda) cc) = false := by
    show (scope.kind == _ && _) = false
    rw [S.kind]
    rfl
  refine ks_wpAt_execs_cons (ks_wpAt_Expr_any (hi := hint) (ks_wpAt_MethodCall (he := hc _) ?_))
  have I1 : InstAt h₁ x (excO C t0) C none := ⟨hx₁, rfl, rfl, trivial⟩
  obtain ⟨oD, hD1, hD2⟩ : ∃ oD, h₁.get? C = some oD ∧ oD.data = .cls { name := nm, bases := bs, mro := .ref C :: bm, ns := N, qualname := q, hasDict := true, slotNames := sn, subclasses := sub, abstract := ab, collection := col, hasDel := false } := ⟨_, X₁ _ _ hC, rfl⟩
  obtain ⟨mb, hb1, hb2⟩ := hm.blt
  have kb1 : ∀ b o, base.get? b = some o → h₁.get? b = some o := fun b o e => kk _ _ (kb _ _ e)
  refine ks_wpAt_super_base (env := ksEnv qual scope hp.objs.size fI (.ref cda) cc) S.sup S.cl (by decide) rfl (X₁ _ _ ho) rfl har rfl (X₁ _ _ hcode) rfl hvs hfile T.top ?_
  refine ks_loadName_global S.kind S.sup (loadGlobal_builtin (env := ksEnv qual scope hp.objs.size fI (.ref cda) cc) (hm.glob.keeps kb1) (mg_none_of hm.kin hm.glob T.sg) (hb1.keeps kb1) ((hb2 _ (by decide)).trans PyProof.Rows.Boot.«super») ⟨rfl, ?_⟩)
  refine wpAny_loadName_free S.kind S.cl rfl ⟨_, X₁ _ _ hcell, rfl⟩ ?_
  rw [hself]
  refine wpAny_loadName_local S.kind S.self hns b1 ?_
  refine ks_wpAny_isType_cls hD1 hD2 ⟨rfl, ?_⟩
  refine ks_wpAny_call_super hD1 hD2 hx₁ rfl (fun c e => by cases e) (looks_subIn X₁ T.subC) (fun h2 e2 k2 => ?_)
  have X₂ : K.In h2 := X₁.keeps k2
  have hx2 := k2 _ _ hx₁
  have I2 : InstAt h2 x (excO C t0) C none := ⟨hx2, rfl, rfl, trivial⟩
  have hsup := T.sup
  unfold ks_superIn at hsup
  rw [hcl] at hsup
  have xC : x ≠ C := ks_ne X₁ I1 hcl
  refine kxs_getMethod (K := K) (l₀ := .ref C :: bm) kxs_ValueError e2 (looks_opaque X₂ T.opq) (fun A Q E s kp q => wpAny_bind ((looks_clsIn X₂ hcl) A _ E s kp (wpAny_pure q))) rfl X₂ hsup (I2.type.andThen (looks_subIn X₂ T.subV)) xC (by decide) ?_
  have k3 : ∀ b o, h2.get? b = some o → (h2.push (kxs_mw "ValueError.__init__" x)).get? b = some o := fun b o e => Heap.get?_push_of_some _ e
  refine callWith_mw (i := "ValueError.__init__") (x := x) ?_
  show wpAny _ _ (spliced ((false, eval (.Constant (.str text) k a4) (ksEnv qual scope hp.objs.size fI (.ref cda) cc)) :: backTo a5 (starEach [] (ksEnv qual scope hp.objs.size fI (.ref cda) cc)))) _ _ _
  refine Calls.spliced_cons (wpAny_Constant_str (k := k) (pos := a4) ?_)
  refine Calls.spliced_nil ⟨Heap.get?_push_size _ rfl, ?_⟩
  refine call_mw (k3 _ _ (X₂ _ _ hC)) (k3 _ _ hx2) (Heap.get?_push_size _ rfl) (by rw [sizeLine_eq]; exact (by decide : 1 ≤ 16777216)) fun h4 t1 k4 hx4 => ?_
  have k14 : ∀ b o, b ≠ x → h₁.get? b = some o → h4.get? b = some o := fun b o hb e => k4 b o hb (k3 _ _ (k2 _ _ e))
  have hns4 : h4.Ns hp.objs.size fun y => ((("self" : Str), Value.ref x) :: (fps.map (·.f)).zip vs).reverse.lookup y := by
    obtain ⟨oL, es, ep, hL, r⟩ := hns
    exact ⟨oL, es, ep, k14 _ _ (Nat.ne_of_gt hlt) hL, r⟩
  obtain ⟨z1, z2⟩ := zip_fp hv
  rw [← z2]
  refine wpAt_of_wpAny (stores (env := ksEnv qual scope hp.objs.size fI (.ref cda) cc) (hp := hp) (m := fun y => ((("self" : Str), Value.ref x) :: (fps.map (·.f)).zip vs).reverse.lookup y) (cd := { name := nm, bases := bs, mro := .ref C :: bm, ns := N, qualname := q, hasDict := true, slotNames := sn, subclasses := sub, abstract := ab, collection := col, hasDel := false }) T.sa hcl (show refsVE (.ref C :: bm) = true from hbm) rfl S.kind S.self b1 (Nat.ne_of_gt hlt) (Nat.le_refl _) X hnx (fps.zip vs) h4 _ none [] (fun p hp' => ?_) ?_ hns4 (fun dx e => by cases e) ⟨fun b o hb e => k14 b o hb (kk _ _ e), ⟨t1, hx4⟩, rfl⟩ (Nat.le_of_lt hns4.lt) fun h5 tk5 d5 J => ?_)
  · have m1 : p.1 ∈ fps := (List.of_mem_zip (show (p.1, p.2) ∈ fps.zip vs from hp')).1
    have m2 : p.1.f ∈ fps.map (·.f) := List.mem_map_of_mem m1
    refine ⟨S.fld _ m2, look_rev (by rw [nd]; exact S.nd) (List.mem_cons_of_mem _ ?_), T.noN _ m2, S.dbg _ m2⟩
    rw [← z1]
    exact List.mem_map_of_mem (f := fun p : FP × Value => (p.1.f, p.2)) hp'
  · rw [List.length_zip]
    show 0 + _ ≤ 1000
    omega
  · rw [z1, List.append_nil] at J
    exact hq h5 tk5 d5 J
end
end SupX
set_option Elab.async false
set_option linter.all false
set_option maxRecDepth 100000
set_option maxHeartbeats 2000000
/-! E3: such an exception as a value: C(e, ..), C(f = e, ..), C(). -/
namespace SupX
open PySem PySem.W PySem.Calls PyProof.Rows PySem.HandSPX
/-- the text of __init__ -/
def IsInitN (body : List Stmt) (fs : List Str) : Prop := ∃ (text : Str) (k : Nat) (a1 a2 a3 a4 a5 a6 : Pos) (fps : List FP) (pl : Env → Sem Bool), body = supB text k a1 a2 a3 a4 a5 a6 :: fps.map stB ∧ fs = fps.map (·.f) ∧ Reads text k a1 a2 a3 a4 a5 pl
structure ClsN (prog : Program) (K : Frag) (mg : Str → Option Value) (cn : Str) (C fI cda cc : Addr) (qual : Str) (params : Arguments) (body : List Stmt) (scope : Scope) (fs : List Str) : Prop where
  txt : SupTxtN prog K C fI cda cc qual params body scope fs
  sc : SupSN params scope fs
  iC : findIn K (.ref C) "__init__" = some (some (.ref fI))
  tC : typeIn K (.ref fI) = some (.type "function")
  kC : keepIn K (.ref C) = true
  gC : mg cn = some (.ref C)
  ini : IsInitN body fs
  few : fs.length ≤ 100
structure MadeN (h h' : Heap) (e C : Addr) (d : Option Addr) (al : List (Str × Value)) : Prop where
  keep : ∀ b o, h.get? b = some o → h'.get? b = some o
  new : h.objs.size ≤ e
  obj : ∃ t1, h'.get? e = some (exObj C t1 d)
  dct : match d with
    | none => al = []
    | some dx => h.objs.size ≤ dx ∧ dx ≠ e ∧ al ≠ [] ∧ h'.Ns1 dx (fun y => al.lookup y)
section
variable {prog : Program} {w : World} {A : Around} {R : Result → Shared → Prop} {s : Shared} {K : Frag} {mg : Str → Option Value} {C fI cda cc : Addr} {cn qual : Str} {base : Heap} {params : Arguments} {body : List Stmt} {scope : Scope} {fs : List Str}
theorem made_n (T : ClsN prog K mg cn C fI cda cc qual params body scope fs) (hm : L2.Mod K mg base) (kb : ∀ b o, base.get? b = some o → s.heap.get? b = some o) {pos vs : List Value} {kw : List (Str × Value)} (hB : BindsI params body scope fs pos kw vs) (hv : vs.length = fs.length) (hp : pos.length ≤ sizeLine)
    (X : K.In s.heap) (hlim : s.heap.NoLimit) (hroom : A.depth + 1 < recursionLimit) (hq : ∀ h' tk e d, MadeN s.heap h' e C d (fs.zip vs).reverse → R (.ok (.ret (.ref e))) { s with heap := h', toks := tk }) :
    codeAny (model prog w) A (.call (.ref C) ⟨pos, kw⟩) R s := by
  obtain ⟨text, k, a1, a2, a3, a4, a5, a6, fps, pl, rfl, rfl, hc⟩ := T.ini
  obtain ⟨nm, q, N, bs, bm, sn, sub, ab, col, dd, k0, k1, k2, k3, k5, hC, hbm⟩ := T.txt.cls
  obtain ⟨hp', g, dr, tk, os⟩ := s
  have kk : ∀ b o, hp'.get? b = some o → ((hp'.push (kdv_tup pos)).push (excO C hp'.objs.size)).get? b = some o := fun b o e => Heap.get?_push_of_some _ (Heap.get?_push_of_some _ e)
  have hget : ((hp'.push (kdv_tup pos)).push (excO C hp'.objs.size)).get? (hp'.objs.size + 1) = some (excO C hp'.objs.size) := by heap_get
  have hnx : K.lookup (hp'.objs.size + 1) = none := by
    cases e : K.lookup (hp'.objs.size + 1) with
    | none => rfl
    | some o =>
      have z : hp'.get? (hp'.objs.size + 1) = some o := X _ _ e
      exact absurd (Nat.lt_of_succ_lt (Heap.lt_size z)) (Nat.lt_irrefl _)
  refine PySem.ExW.callK F.excBase_ValueError (fun X => refsVE_contains X bm hbm) (X _ _ hC) (looks_findIn X T.iC) (fun self => bind_fn X self T.tC) hp ?_
  refine own_initN (s := ⟨(hp'.push (kdv_tup pos)).push (excO C hp'.objs.size), g, dr, tk, os⟩) T.txt T.sc hm (fun b o e => kk _ _ (kb _ _ e)) hB (by rw [hv, List.length_map]) (by have := T.few; rw [List.length_map] at this; exact this) (X.keeps kk) (hlim.keeps kk) hget hnx ?_ hc fun h' tk' d J => ?_
  · show A.depth + 1 < recursionLimit
    exact hroom
  · have sz : hp'.objs.size + 1 + 1 = ((hp'.push (kdv_tup pos)).push (excO C hp'.objs.size)).objs.size := by rw [Heap.size_push, Heap.size_push]
    refine ⟨rfl, hq h' tk' (hp'.objs.size + 1) d ⟨fun b o e => J.keep b o (Nat.ne_of_lt (Nat.lt_succ_of_lt (Heap.lt_size e))) (kk b o e), Nat.le_succ _, J.obj, ?_⟩⟩
    have hd := J.dct
    cases d with
    | none => exact hd
    | some dx =>
      obtain ⟨h1, h2, h4, h3⟩ := hd
      exact ⟨Nat.le_trans (by rw [← sz]; exact Nat.le_trans (Nat.le_succ _) (Nat.le_succ _)) h1, h2, h4, h3⟩
end
/-- the class cn at C, of the fields fs, made by place, or by the names ks -/
def ClsOk (prog : Program) (K : Frag) (mg : Str → Option Value) (cn : Str) (C : Addr) (fs ks : List Str) (pm : List Nat) : Prop :=
  ∃ fI cda cc qual params body scope, ClsN prog K mg cn C fI cda cc qual params body scope fs ∧ (∀ vs : List Value, vs.length = fs.length → BindsI params body scope fs vs [] vs) ∧ (∀ ws : List Value, ws.length = ks.length → BindsI params body scope fs [] (ks.zip ws) (Ev.permU pm ws)) ∧ pm.length = fs.length
end SupX
namespace L2
open PySem PySem.Spec PyProof.Rows SupX
theorem alist_rel : ∀ {fs : List Str} {vs : List V} {us : List Value}, Vals vs us → Paired (fun (p : Str × V) (q : Str × Value) => p.1 = q.1 ∧ RelV p.2 q.2) (fs.zip vs) (fs.zip us)
  | [], _, _, _ => .nil
  | _ :: _, _, _, .nil => .nil
  | _ :: fs, _, _, .cons r t => .cons ⟨rfl, r⟩ (alist_rel (fs := fs) t)
theorem paired_app {α β : Type} {F : α → β → Prop} : ∀ {a c : List α} {b d : List β}, Paired F a b → Paired F c d → Paired F (a ++ c) (b ++ d)
  | _, _, _, _, .nil, h => h
  | _, _, _, _, .cons r t, h => .cons r (paired_app t h)
theorem paired_rev {α β : Type} {F : α → β → Prop} : ∀ {a : List α} {b : List β}, Paired F a b → Paired F a.reverse b.reverse
  | _, _, .nil => .nil
  | _, _, .cons r t => by
    rw [List.reverse_cons, List.reverse_cons]
    exact paired_app (paired_rev t) (.cons r .nil)
theorem alist_look : ∀ {a : List (Str × V)} {b : List (Str × Value)}, Paired (fun (p : Str × V) (q : Str × Value) => p.1 = q.1 ∧ RelV p.2 q.2) a b → ∀ f, RelO (a.lookup f) (b.lookup f)
  | _, _, .nil, f => True.intro
  | (k, v) :: a, (k', u) :: b, .cons r t, f => by
    obtain ⟨e, rv⟩ := r
    have e : k = k' := e
    subst e
    by_cases h : f = k
    · subst h
      simp only [List.lookup, beq_self_eq_true]
      exact rv
    · have h' : (f == k) = false := by simpa using h
      simp only [List.lookup, h']
      exact alist_look t f
section
variable {X : Cx} {pins : List (Addr × Obj)} {σ : St} {H : Hp} {s : Shared} {C : Addr}
/-- the new exception is tracked, with its dict -/
theorem inv_made {fs : List Str} {vs : List V} {us : List Value} {h' : Heap} {e : Addr} {d : Option Addr} {tk : Nat} (I : Inv X pins σ H s) (r : Vals vs us) (hl : vs.length = fs.length) (M : MadeN s.heap h' e C d (fs.zip us).reverse) :
    (d = none ∧ fs = [] ∧ H e = none ∧ Inv X pins σ (upd H e (exo e C none)) { s with heap := h', toks := tk }) ∨
    ∃ dx, d = some dx ∧ fs ≠ [] ∧ H e = none ∧ H dx = none ∧ dx ≠ e ∧ Inv X pins σ (upd (upd H dx (exd dx (fs.zip vs).reverse)) e (exo e C (some dx))) { s with heap := h', toks := tk } := by
  obtain ⟨hp, g, dr, tk0, os⟩ := s
  have he := I.hok.fresh M.new
  obtain ⟨t1, ho⟩ := M.obj
  have hd := M.dct
  cases d with
  | none =>
    have hz : fs.zip us = [] := List.reverse_eq_nil_iff.mp hd
    have hlu : us.length = fs.length := r.length ▸ hl
    have hf : fs = [] := by
      cases fs with
      | nil => rfl
      | cons f fs =>
        cases us with
        | nil => simp at hlu
        | cons u us => cases hz
    exact .inl ⟨rfl, hf, he, I.laid (t' := tk) M.keep M.new (exo_ok ho)⟩
  | some dx =>
    obtain ⟨h1, h2, h4, h3⟩ := hd
    have hne : fs ≠ [] := fun z => h4 (by rw [z]; rfl)
    obtain ⟨G', g1, g2⟩ := restrict h' fun b => decide (b ≠ e)
    have gk : ∀ b, b ≠ e → G'.get? b = h'.get? b := fun b hb => g1 b (decide_eq_true hb)
    have ge : G'.get? e = none := g2 e (by simp)
    have old : ∀ b o, hp.get? b = some o → G'.get? b = some o := fun b o q => (gk b (Nat.ne_of_lt (Nat.lt_of_lt_of_le (Heap.lt_size q) M.new))).trans (M.keep b o q)
    have I1 : Inv X pins σ (upd H dx (exd dx (fs.zip vs).reverse)) ⟨G', g, dr, tk0, os⟩ := I.laid (t' := tk0) old h1 (exd_ok (h3.at fun o q => (gk dx h2).trans q) (alist_look (paired_rev (alist_rel r))))
    have hdn := I.hok.fresh h1
    refine .inr ⟨dx, rfl, hne, he, hdn, h2, ?_⟩
    refine Inv.laidN (s := ⟨G', g, dr, tk0, os⟩) (h' := h') (t' := tk) (o := exo e C (some dx)) I1 (fun b o q => ?_) ge (by rw [upd_ne h2.symm]; exact he) (exo_ok ho)
    by_cases hb : b = e
    · rw [hb] at q
      have q : G'.get? e = some o := q
      rw [ge] at q; cases q
    · exact (gk b hb).symm.trans q
/-- C(e, ..) -/
def tExN (C : Addr) (fs : List Str) (ta : TA) : TE := fun σ H Q => ta σ H fun vs H1 => vs.length = fs.length ∧ fs ≠ [] ∧ ∀ e d, H1 e = none → H1 d = none → d ≠ e → Q (.ref e) (upd (upd H1 d (exd d (fs.zip vs).reverse)) e (exo e C (some d)))
def tEx0 (C : Addr) : TE := fun _ H Q => ∀ e, H e = none → Q (.ref e) (upd H e (exo e C none))
variable {cn : Str} {fs ks : List Str} {pm : List Nat} {p pos : Pos} {j : Nat}
theorem pe_exN {e : Expr} {es : List Expr} {ta : TA} (T : ClsOk X.prog X.K X.mg cn C fs ks pm) (hr : Room j X.A) (ha : PA X (e :: es) ta) (hg : Gl X cn)
    (hdb : (cn == ("__debug__" : Str)) = false := by decide) (he : starEach (e :: es) X.env = (false, eval e X.env) :: starEach es X.env := by rfl) (hpl : (backTo pos (starEach es X.env)).any (·.1) = false := by rfl) :
    PE X (.Call (.Name cn p) (e :: es) [] pos) (tExN C fs ta) := by
  obtain ⟨fI, cda, cc, qual, params, body, scope, T, hB, _, _⟩ := T
  refine ⟨fun pins s σ H Q I h => ?_⟩
  refine wpAny_Call_Name_kw (ld_glob I hg T.gC ?_ hdb)
  refine PySem.W.callWith_K (h₀ := X.base) I.ok.mod.kin T.kC (thn (ha.run pos pins s σ H _ I h) fun us s1 hh => ?_) he hpl
  obtain ⟨vs, H1, I1, r1, hl, hne, q1⟩ := hh
  have hlu : us.length = fs.length := r1.length ▸ hl
  have few := T.few
  refine ⟨I1.kIn, wpAny_call (made_n T I1.ok.mod I1.bk (hB us hlu) hlu (by show us.length ≤ sizeLine; rw [hlu, sizeLine_eq]; omega) I1.kIn I1.nolimit (by have := hr.dp; omega) fun h' tk' x d M => ?_)⟩
  rcases inv_made (tk := tk') I1 r1 hl M with ⟨_, z, _⟩ | ⟨dx, rfl, h0, h1, h2, h3, J⟩
  · exact absurd z hne
  · exact ⟨.ref x, _, J, rfl, q1 x dx h1 h2 h3⟩
theorem pe_ex0 (T : ClsOk X.prog X.K X.mg cn C [] ks pm) (hr : Room j X.A) (hg : Gl X cn) (hdb : (cn == ("__debug__" : Str)) = false := by decide) : PE X (.Call (.Name cn p) [] [] pos) (tEx0 C) := by
  obtain ⟨fI, cda, cc, qual, params, body, scope, T, hB, _, _⟩ := T
  refine ⟨fun pins s σ H Q I h => ?_⟩
  refine wpAny_Call_Name_kw (ld_glob I hg T.gC ?_ hdb)
  refine PySem.W.callWith_K0 I.kIn T.kC (wpAny_call (made_n T I.ok.mod I.bk (hB [] rfl) rfl (Nat.zero_le _) I.kIn I.nolimit (by have := hr.dp; omega) fun h' tk' x d M => ?_))
  rcases inv_made (vs := []) (us := []) (tk := tk') I .nil rfl M with ⟨rfl, _, h1, J⟩ | ⟨dx, rfl, h0, h1, h2, h3, J⟩
  · exact ⟨.ref x, _, J, rfl, h x h1⟩
  · exact absurd rfl h0
/-- C(f = e, ..) -/
theorem pe_exK {kws : List Keyword} {tk : TA} (T : ClsOk X.prog X.K X.mg cn C fs ks pm) (hr : Room j X.A) (hg : Gl X cn) (hkw : PK X kws tk) (hall : (backToKw pos (keywordEach kws X.env)).all (·.1.isSome) = true := by rfl) (hks : (backToKw pos (keywordEach kws X.env)).filterMap (·.1) = ks := by rfl)
    (hdb : (cn == ("__debug__" : Str)) = false := by decide) (hpl : ((backTo pos (starEach [] X.env)).any (·.1) || (backToKw pos (keywordEach kws X.env)).any (·.1.isNone)) = false := by rfl) :
    PE X (.Call (.Name cn p) [] kws pos) (fun σ H Q => tExN C fs (fun σ H Q => tk σ H fun zs H1 => zs.length = ks.length ∧ Q (Ev.permV pm zs) H1) σ H Q) := by
  obtain ⟨fI, cda, cc, qual, params, body, scope, T, _, hB, hpm⟩ := T
  refine ⟨fun pins s σ H Q I h => ?_⟩
  refine wpAny_Call_Name_kw (ld_glob I hg T.gC ?_ hdb)
  refine PySem.W.callWith_KW0 (h₀ := X.base) I.ok.mod.kin T.kC hall (thn (hkw.run pos pins s σ H _ I h) fun ws s1 ⟨zs, H1, I1, rz, hl, hlp, hne, q1⟩ => ⟨I1.kIn, ?_⟩) hpl
  rw [hks]
  have hlu : ws.length = ks.length := rz.length ▸ hl
  have r1 := Ev.perm_rel (pm := pm) rz
  refine wpAny_call (made_n T I1.ok.mod I1.bk (hB ws hlu) (r1.length ▸ hlp) (Nat.zero_le _) I1.kIn I1.nolimit (by have := hr.dp; omega) fun h' tk' x d M => ?_)
  rcases inv_made (tk := tk') I1 r1 hlp M with ⟨_, z, _⟩ | ⟨dx, rfl, h0, h1, h2, h3, J⟩
  · exact absurd z hne
  · exact ⟨.ref x, _, J, rfl, q1 x dx h1 h2 h3⟩
end
end L2
set_option Elab.async false
set_option linter.all false
set_option maxRecDepth 100000
set_option maxHeartbeats 2000000
/-! E4: e.f and isinstance(e, C) of such a value. -/
namespace PySem
namespace ExW
open PySem.W PySem.Spec PySem.Calls PyProof.Rows PySem.HandSPX L2
section
variable {prog : Program} {w : World} {A : Around} {E : Value → Shared → Prop} {s : Shared} {K : Frag} {x D : Addr} {ox : Obj} {odo : Option Obj}
theorem find_dataX {C : Addr} {name : Str} {a g : Value} (h1 : (clsIn K C).isSome = true) (h2 : findIn K (.ref C) name = some (some a)) (h3 : specialIn K a "__get__" = some (some g)) (h4 : takesIn K a = some true) : findObj K C odo name = some (.bind g a) := by
  obtain ⟨cd, h1⟩ := Option.isSome_iff_exists.mp h1
  unfold findObj
  rw [h1, Option.bind_some, h2, Option.bind_some]
  simp [h3, h4]
theorem class_of {Q : Option Value → Shared → Prop} (c : ExcC K D) (X : K.In s.heap) (I : InstAt s.heap x ox D odo) (h : Q (some (.ref D)) { s with toks := s.toks + 1 }) : wpAny (model prog w) A (getAttr? (.ref x) "__class__") Q E s := by
  have hf : findObj K D odo "__class__" = some (.bind (.builtin "getset_descriptor.__get__") (.builtin "object.__class__")) := find_dataX (by obtain ⟨cd, hc, _⟩ := any_some c.hd; rw [hc]; rfl) c.ha c.hn c.ht
  obtain ⟨hp, g, d, t, os⟩ := s
  have L0 := I.type (M := model prog w)
  have L1 := looks_findIn (M := model prog w) X c.hg
  have L2 := looks_findIn (M := model prog w) X c.hk
  have L3 := looks_find (M := model prog w) X I hf
  have sub : Looks (model prog w) hp (isInstance (.ref x) (.type "BaseException")) true := L0.andThen (looks_subIn X c.hs)
  have n0 : (false && onTheHeap (Value.builtin "BaseException.__getattribute__")) = false := rfl
  have n2 : (Value.builtin "BaseException.__getattribute__" == Value.builtin "object.__getattribute__") = false := by decide +kernel
  have n1 : (onTheHeap (Value.ref D) && Value.builtin "BaseException.__getattribute__" == Value.builtin "object.__getattribute__") = false := by rw [n2]; rfl
  unfold getAttr? getAttrBy? getAttrBy
  refine wpAny_bind (wpAny_mkText (wpAny_bind (wpAny_attempt (wpAny_holding (wpAny_bind (L0.at (wpAny_bind (L1.at ?_))))))))
  show wpAny _ _ (if (onTheHeap (Value.ref D) && Value.builtin "BaseException.__getattribute__" == Value.builtin "object.__getattribute__") = true then _ else _) _ _ _
  rw [n1, if_neg Bool.false_ne_true]
  unfold getAttrByItsOwn hookBefore
  refine wpAny_bind ?_
  rw [if_pos (show onTheHeap (Value.ref D) = true from rfl)]
  refine L2.at (wpAny_bind (wpAny_attempt (wpAny_holding ?_)))
  unfold callGetattribute
  rw [n0, if_neg Bool.false_ne_true]
  unfold boundAndCalled
  rw [PySem.F.excAttr_ValueError.ga.bind (.ref x)]
  refine wpAny_bind (wpAny_pure (show wpAny _ _ (call (.builtin "BaseException.__getattribute__") [.ref x, .str "__class__" t]) _ _ _ from ?_))
  refine wpAny_call (codeAny_call_builtin PySem.F.excAttr_ValueError.ga.plain PySem.F.entry_bexc_ga ?_)
  refine @check_slot (model prog w) _ _ ⟨hp, g, d, t + 1, os⟩ "BaseException.__getattribute__" "BaseException" "__getattribute__" (.ref x) [.str "__class__" t] [] _ (by decide +kernel) (by decide +kernel) sub (PySem.F.args_bexc_ga (.ref x) (.str "__class__" t)) ?_
  unfold Builtin.«object.__getattribute__»
  refine wpAny_bind (wpAny_of_eq (a := ((Value.ref x : Value), [Value.str "__class__" t])) (by first | rfl | (simp only [slotArgs]; rfl)) ?_)
  refine wpAny_bind (wpAny_pure (wpAny_bind (L0.at (wpAny_bind (L3.at ?_)))))
  show wpAny _ _ (holding [Value.builtin "object.__class__"] (call (.builtin "getset_descriptor.__get__") [.builtin "object.__class__", .ref x, .ref D]) >>= ret) _ _ _
  refine wpAny_bind (wpAny_holding (wpAny_call (class_get (s := ⟨hp, g, d, t + 1, os⟩) (ox := ox) (od := odo) X I c.hm (wpAny_pure ?_))))
  show wpAny _ _ (handedOut (.ref D)) _ _ _
  rw [handedOut_of (v := .ref D) rfl]
  first
    | exact wpAny_pure (wpAny_pure h)
    | exact wpAny_pure h
    | exact wpAny_pure (wpAny_bind (wpAny_pure (wpAny_pure h)))
theorem kitx_of (c : ExcC K D) : KitX K (.ref x) (.ref D) (fun h => ∃ ox odo, InstAt h x ox D odo) where
  ty := fun _ _ _ ⟨_, _, I⟩ => I.type
  it := fun _ _ X _ => by
    obtain ⟨cd, hc, _⟩ := any_some c.hd
    unfold clsIn at hc
    split at hc
    · rename_i c' d' cd' sl' ho
      exact fun A' Q' E' s' k q => by
        unfold isType loadHead
        exact wpAny_bind (wpAny_loadPart (k _ _ (X _ _ ho)) (wpAny_pure q))
    · cases hc
  ne := fun h tp dd its n sl X htp => by
    obtain ⟨cd, hc, _⟩ := any_some c.hd
    refine Bool.eq_false_iff.mpr fun q => ?_
    obtain rfl : D = tp := Value.ref.inj (beq_iff_eq.mp q)
    unfold clsIn at hc
    split at hc
    · rename_i c' d' cd' sl' ho
      cases (X _ _ ho).symm.trans htp
    · cases hc
  ca := fun X ⟨_, _, I⟩ k => class_of c X I k
end
end ExW
end PySem
namespace L2
open PySem PySem.Spec PyProof.Rows
/-- at a: an exception of the class at C, its fields fs -/
def ExAt (H : Hp) (a C : Addr) (fs : List (Str × V)) : Prop := ∃ d, H a = some (exo a C d) ∧ (match d with
  | none => fs = []
  | some dx => H dx = some (exd dx fs))
theorem exd_tbl {e : Addr} {fs : List (Str × V)} {ps : Array Value} : exd e fs ≠ .tbl ps := fun z => by
  unfold exd at z
  cases z
theorem ExAt.ext {H H' : Hp} {a C : Addr} {fs : List (Str × V)} (h : ExAt H a C fs) (e : ∀ b o, H b = some o → (∀ ps, o ≠ .tbl ps) → H' b = some o) : ExAt H' a C fs := by
  obtain ⟨d, h1, h2⟩ := h
  refine ⟨d, e _ _ h1 fun ps => exo_tbl, ?_⟩
  cases d with
  | none => exact h2
  | some dx => exact e _ _ h2 fun ps => exd_tbl
section
variable {X : Cx} {pins : List (Addr × Obj)} {σ : St} {H : Hp} {s : Shared} {a C : Addr} {fs : List (Str × V)}
theorem exAt_inst (I : Inv X pins σ H s) (h : ExAt H a C fs) : ∃ ox odo, PySem.W.InstAt s.heap a ox C odo := by
  obtain ⟨d, h1, h2⟩ := h
  obtain ⟨t1, ho⟩ := exo_at I.hok h1
  cases d with
  | none => exact ⟨_, none, ho, rfl, rfl, trivial⟩
  | some dx =>
    obtain ⟨mA, hn, _⟩ := exd_at I.hok h2
    obtain ⟨od, hd, _⟩ := lookIn_ns hn
    exact ⟨_, some od, ho, rfl, rfl, hd⟩
/-- e.f -/
def tExf (K : PySem.W.Frag) (f : Str) (te : TE) : TE := fun σ H Q => te σ H fun x H1 => ∃ a C fs v, x = .ref a ∧ XfC K C ∧ PySem.W.findIn K (.ref C) f = some none ∧ ExAt H1 a C fs ∧ fs.lookup f = some v ∧ Q v H1
theorem pe_exf {e : Expr} {te : TE} {pos : Pos} {n : Str} (he : PE X e te) (hb : attributeBase e n X.env (eval e X.env) = eval e X.env := by rfl) : PE X (.Attribute e n pos) (tExf X.K n te) := by
  refine ⟨fun pins s σ H Q I h => attr_of hb (thn (he.run pins s σ H _ I h) fun u s1 ⟨x, H1, I1, rx, a, C, fs, v, ex, T, hno, hx, hl, q⟩ => ?_)⟩
  subst ex
  obtain rfl : u = Value.ref a := rx
  obtain ⟨d, h1, h2⟩ := hx
  obtain ⟨t1, ho⟩ := exo_at I1.hok h1
  cases d with
  | none =>
    have h2 : fs = [] := h2
    rw [h2] at hl
    cases hl
  | some dx =>
    obtain ⟨mA, hn, hr⟩ := exd_at I1.hok h2
    obtain ⟨od, hd, look⟩ := lookIn_ns hn
    obtain ⟨u, hu, ru⟩ := RelO.some_of (v := v) (o := mA n) (by rw [← hl]; exact hr n)
    exact HandSPX.exc_get I1.kIn (ox := _) ⟨ho, rfl, rfl, hd⟩ T.ga T.gg T.exC (PySem.W.findObj_own T.hdC hno rfl (by rw [look, hu])) (handed_of ru) ⟨v, H1, I1.tok _, ru, q⟩
/-- isinstance(e, C) -/
def rIsX (K : PySem.W.Frag) : List V → Hp → VK → Prop := fun xs H Q => ∃ (a C : Addr) (fs : List (Str × V)) (c : V) (cv : Value) (b : Bool), xs = [.ref a, c] ∧ ClsV c cv ∧ ExAt H a C fs ∧ ExcC K C ∧ PySem.W.kitOne K (.ref C) cv = some b ∧ Q (.bl b) H
theorem call_isX : CallR X (.builtin "isinstance") (rIsX X.K) := by
  intro pins s σ H xs us Q I r h
  obtain ⟨a, C, fs, c, cv, b, rfl, hc, hx, T, e, q⟩ := h
  obtain ⟨u1, u2, rfl, r1, r2⟩ := vals2 r
  obtain rfl := hc.eq r2
  cases (show u1 = Value.ref a from r1)
  obtain ⟨ox, odo, J⟩ := exAt_inst I hx
  exact PySem.W.kia_one (PySem.ExW.kitx_of T) I.kIn ⟨ox, odo, J⟩ e (fun z => nomatch z) fun tk => ⟨.bl b, H, I.tok tk, rfl, q⟩
end
end L2
set_option Elab.async false
set_option linter.all false
set_option maxRecDepth 100000
set_option maxHeartbeats 2000000
/-! E5: a lambda of one parameter, without captured names, called: lambda e: [e.f, ..]. -/
namespace LamD
open PySem PySem.Spec PyProof.Rows L2 LamX SupX
def tAttrs (K : PySem.W.Frag) : List Str → TA
  | [] => tNil
  | f :: fs => tCons (tExf K f (tVar 0)) (tAttrs K fs)
def attE (p : Str × Pos × Pos) : Expr := .Attribute (.Name "e" p.2.1) p.1 p.2.2
theorem pa_attrs {X : Cx} (hN : X.N[0]? = some ("e" : Str)) (hv : Vis X.env.scope "e") : ∀ fs : List (Str × Pos × Pos), PA X (fs.map attE) (tAttrs X.K (fs.map (·.1)))
  | [] => pa_nil
  | p :: fs => pa_cons (pe_exf (pe_var hN hv (by decide) (by decide))) (pa_attrs hN hv fs)
theorem tAttrs_ok {K : PySem.W.Frag} {H : Hp} {σ : L2.St} {ev C : Addr} {al : List (Str × V)} (h0 : σ[0]? = some (some (.ref ev))) (hx : ExAt H ev C al) (T : XfC K C) : ∀ {fs : List Str} {vs : List V} {Q : List V → Hp → Prop}, (∀ f ∈ fs, PySem.W.findIn K (.ref C) f = some none) → fs.map (fun f => al.lookup f) = vs.map some → Q vs H → tAttrs K fs σ H Q
  | [], [], Q, _, _, q => q
  | f :: fs, v :: vs, Q, hn, e, q => by
    rw [List.map_cons, List.map_cons, List.cons.injEq] at e
    exact ⟨.ref ev, h0, ev, C, al, v, rfl, T, hn f List.mem_cons_self, hx, e.1, tAttrs_ok h0 hx T (fun g hg => hn g (List.mem_cons_of_mem _ hg)) e.2 q⟩
/-- what the lambda's words say -/
structure LookS (params : Arguments) (body : Expr) (scope : Scope) (fs : List Str) : Prop where
  sc : FnScope ["e"] ["e"] scope
  nocell : ∀ y ∈ scope.names, y.2 ≠ .cell
  lc : scope.names.lookup ("e" : Str) = some .local
  bd : ∃ (ps : List (Str × Pos × Pos)) (pos : Pos), body = .List (ps.map attE) pos ∧ fs = ps.map (·.1)
  bind : ∀ (q : Str) (doc pm cv ctv v : Value), bindArgs (PySem.W.kdv_fn "<lambda>" q params (.expr body) scope [] .none doc pm cv ctv) ⟨[v], []⟩ = pure [(("e" : Str), v)]
def LookAt (H : Hp) (f : Addr) (fs : List Str) : Prop := ∃ qual params body scope, LamAt H f qual params body scope [] [] ∧ LookS params body scope fs
theorem LookAt.ext {H H' : Hp} {f : Addr} {fs : List Str} (h : LookAt H f fs) (e : ExtN H H') : LookAt H' f fs := by
  obtain ⟨q, p, b, s, h1, h2⟩ := h
  exact ⟨q, p, b, s, h1.ext e, h2⟩
theorem look_at {P : Program} {w : World} {H : Hp} {h : Heap} {f : Addr} {fs : List Str} (hok : HOk P w H h) (l : LookAt H f fs) : ∃ qual params body scope c' od sl doc pm ctv, LookS params body scope fs ∧ h.get? f = some (⟨.type "function", od, .func (PySem.W.kdv_fn "<lambda>" qual params (.expr body) scope [] .none doc pm (.ref c') ctv), sl⟩ : Obj) ∧ h.CodeRec (.ref c') qual := by
  obtain ⟨qual, params, body, scope, ⟨c', dT, hf, hc, hd⟩, hS⟩ := l
  have e : dT = none := by
    rcases hd with ⟨e, _⟩ | ⟨_, _, z, _⟩
    · exact e
    · exact absurd rfl z
  subst e
  obtain ⟨od, sl, doc, pm, ctv, of⟩ := lamO_at hok hf
  obtain ⟨⟨oc, vs, t, hoc, hdc, hvc⟩, _, _⟩ := hok c' _ hc
  exact ⟨qual, params, body, scope, c', od, sl, doc, pm, ctv, hS, of, c', oc, vs, t, rfl, hoc, hdc, hvc⟩
theorem pe_look {X : Cx} {i k : Nat} {a : Str} {e : Expr} {te : TE} {p1 p2 : Pos} (hr : Room (k + 1) X.A) (ha : PE X e te)
    (hN : X.N[i]? = some a) (hv : Vis X.env.scope a) (hd : (a == ("__debug__" : Str)) = false := by decide) (hcd : (a == ("__classdict__" : Str)) = false := by decide)
    (he : starEach (e :: []) X.env = (false, eval e X.env) :: starEach [] X.env := by rfl) (hpl : (backTo p2 (starEach [] X.env)).any (·.1) = false := by rfl) :
    PE X (.Call (.Name a p1) [e] [] p2) (fun σ H Q => ∃ f fs, σ[i]? = some (some (.ref f)) ∧ LookAt H f fs ∧ te σ H fun v H1 => LookAt H1 f fs ∧ ∃ ev C al vs, v = .ref ev ∧ ExAt H1 ev C al ∧ XfC X.K C ∧ (∀ f ∈ fs, PySem.W.findIn X.K (.ref C) f = some none) ∧ fs.map (fun f => al.lookup f) = vs.map some ∧ vs.length ≤ sizeLine ∧ ∀ p, H1 p = none → Q (.ref p) (upd H1 p (.lst vs))) := by
  refine ⟨fun pins s σ H Q I ⟨f, fs, hs, hl0, h⟩ => ?_⟩
  refine wpAny_Call_Name_kw (thn ((pe_var (pos := p1) (i := i) hN hv hd hcd).run pins s σ H (fun v H1 => v = .ref f ∧ H1 = H) I ⟨.ref f, hs, rfl, rfl⟩) fun u s1 ⟨v, H1, I1, r1, q1⟩ => ?_)
  obtain ⟨ev, eH⟩ := q1
  subst ev eH
  obtain rfl : u = Value.ref f := r1
  obtain ⟨_, _, _, _, _, _, _, _, _, _, _, of0, _⟩ := look_at I1.hok hl0
  refine PySem.W.callWith_F ⟨_, _, _, _, of0⟩ ?_ he hpl
  rw [he]
  show wpAny _ _ (spliced ((false, eval e X.env) :: backTo p2 (starEach [] X.env))) _ _ s1
  refine Calls.spliced_cons (thn (ha.run pins s1 σ _ _ I1 h) fun u s2 ⟨v, H2, I2, r2, hl, ev, C, al, vs, eqv, hx, T, hn, hm, hsz, q⟩ => ?_)
  subst eqv
  obtain ⟨qual, params, body, scope, c', od, sl, doc, pm, ctv, S, of, hcr⟩ := look_at I2.hok hl
  refine Calls.spliced_nil ⟨⟨_, _, _, _, of⟩, ?_⟩
  cases (show u = Value.ref ev from r2)
  obtain ⟨ps, pos, rfl, rfl⟩ := S.bd
  have lim := I2.nolimit
  have rc : codeAny (model X.prog X.w) X.A (.call (.ref f) ⟨[.ref ev], []⟩) (CR CX0 X.stack X.prog X.w H2 s2 Q E0) s2 := by
    refine PySem.W.kla_callFunE hr.depth of rfl S.sc.co S.sc.gen rfl hcr ?_
    show wpAny _ _ (bindArgs (PySem.W.kdv_fn "<lambda>" qual params (.expr (.List (ps.map attE) pos)) scope [] .none doc pm (.ref c') ctv) ⟨[.ref ev], []⟩) _ _ _
    rw [S.bind]
    refine wpAny_pure (wpAny_newFunctionEnv_cells S.sc.kind (fun y hy => ?_) fun env he' s3 x => ?_)
    · rcases List.mem_cons.mp hy with rfl | hy
      · exact .inl S.lc
      · cases hy
    · subst he'
      refine ⟨lim.keeps x.toInCall.keep, ?_⟩
      have I3 : Inv (cxOf CX0 X.prog X.w X.K X.mg X.base ["e"] qual scope f (.ref c') X.A X.stack s2 H2 E0) [] (L2.start ["e"] [.ref ev]) H2 s3 := inv_start (ps := ["e"]) (us := [.ref ev]) (vs := [.ref ev]) S.sc hr.hd I2.env0 rfl (.cons rfl .nil) x
      have hb : PE (cxOf CX0 X.prog X.w X.K X.mg X.base ["e"] qual scope f (.ref c') X.A X.stack s2 H2 E0) (.List (ps.map attE) pos) (tLst (tAttrs X.K (ps.map (·.1)))) := pe_lst (pa_attrs rfl (.inl S.lc) ps)
      refine PySem.W.kla_codeExpr (wpAny_mono (hb.run [] s3 _ H2 Q I3 (tAttrs_ok rfl hx T hn hm ⟨hsz, q⟩)) (fun v s' hq => ?_) fun e s' hq => hq)
      obtain ⟨w', H', J', rv, q'⟩ := hq
      exact ⟨w', H', J'.os, J'.bare, J'.base, J'.hok, rv, q'⟩
  refine wpAny_call (codeAny_mono rc fun r s' hq => ?_)
  cases r with
  | error e => exact (show False from hq).elim
  | ok fl =>
    cases fl with
    | ret u => exact I2.after hq
    | next => exact False.elim hq
    | brk => exact False.elim hq
    | cont => exact False.elim hq
end LamD
set_option Elab.async false
set_option linter.all false
set_option maxRecDepth 100000
set_option maxHeartbeats 0
/-! W1: _law_very(v, v) tells True of every object drawn (from k01's V1, V4). -/
namespace LW
open PySem PySem.Spec PyProof.Rows L2 RT RZ Ev LamX LamD
def veryN : List Str := ["kept", "thing", "found"]
abbrev sVery : Stmt := top 58
theorem ifT {p q : Prop} (h : p) : if true = true then p else q := h
theorem ifF {p q : Prop} (h : q) : if false = true then p else q := h
theorem sc_very : FnScope veryN ["kept", "thing"] (defScope sVery) := ⟨rfl, rfl, rfl, by decide +kernel, rfl, by decide +kernel, by decide +kernel⟩
/-- no key of these is a text -/
def NoStr (kvs : List (L2.Key × V)) : Prop := ∀ p ∈ kvs, ∀ x, p.1 ≠ .inr x
theorem put_late {kvs : List (L2.Key × V)} (h : NoStr kvs) (v : V) : putK kvs (.inr " late ") v = kvs ++ [(.inr " late ", v)] := by
  unfold putK
  rw [if_neg]
  intro z
  obtain ⟨p, hp, e⟩ := List.any_eq_true.mp z
  exact h p hp _ (of_decide_eq_true e)
theorem val_late {kvs : List (L2.Key × V)} (h : NoStr kvs) (v : V) : valV (kvs ++ [((.inr " late " : L2.Key), v)]) (.inr " late ") = some v := by
  induction kvs with
  | nil => exact valV_pos rfl
  | cons p r ih =>
    rw [List.cons_append, valV_neg (h p List.mem_cons_self _)]
    exact ih fun q hq => h q (List.mem_cons_of_mem _ hq)
theorem drop_late {kvs : List (L2.Key × V)} (h : NoStr kvs) (v : V) : dropK (kvs ++ [((.inr " late " : L2.Key), v)]) (.inr " late ") = kvs := by
  unfold dropK
  rw [List.filter_append, List.filter_eq_self.mpr fun p hp => decide_eq_true (h p hp _)]
  simp
def tIsiV (K : Frag) (i : Nat) (t : String) : TE := fun σ H Q => tVar i σ H fun x H1 => rIsi K [x, .ty t] H1 Q
section
variable {P : Program} {w : World} {K : Frag} {mg : Str → Option Value} {base : Heap} {a : Nat → Addr} {fd : Nat → FuncData} {n : Nat} {g : Addr} {fdv : FuncData}
theorem very_list (T : Txt K mg a fd) (D : FunD K "_law_very" "_law_very" (defArgs sVery) (defBody sVery) (defScope sVery) [] [] g fdv) : FnOk P w K mg base CX0 (n + 1) g fdv ["kept", "thing"] (fun vs H Q E => ∃ b ws, vs = [.ref b, .ref b] ∧ H b = some (.lst ws) ∧ ws.length < sizeLine ∧ Q (.bl true) H) := by
  refine D.ok sc_very (fun vs H Q E h => ?_) (fun cdv A outer s H vs Q E hr h => ?_)
  · obtain ⟨_, _, rfl, _⟩ := h
    rfl
  · obtain ⟨b, ws, rfl, hb, hl, hq⟩ := h
    refine ⟨_, pss_cons (ps_if (pt_val (pe_callB call_isi rfl T.f_isinstance PyProof.Rows.boot_isinstance (pa_cons (pv 1) (pa_ty rfl T.f_list PyProof.Rows.boot_list pa_ty0)) (by decide) (by decide)))
      (pss_cons (ps_expr (pe_bm PySem.F.plainAttrs_list PySem.F.slot_list_append PySem.F.type_list_append mt_append (pv 1) (pa_cons pe_str pa_nil)))
      (pss_cons (ps_set (i := 2) sc_very.nd rfl (Or.inl rfl) (pe_and (pe_callB call_isi rfl T.f_isinstance PyProof.Rows.boot_isinstance (pa_cons (pv 0) (pa_ty rfl T.f_list PyProof.Rows.boot_list pa_ty0)) (by decide) (by decide))
        (pe_and (pe_cmpR op_eq (pe_callB call_len rfl T.f_len PySem.boot_len (pa_cons (pv 0) pa_nil) (by decide) (by decide)) (pe_callB call_len rfl T.f_len PySem.boot_len (pa_cons (pv 1) pa_nil) (by decide) (by decide)) (nomark _))
        (pe_one (pe_cmpR op_eq (pe_ix ix_seq (pv 0) (pe_un un_neg pe_int) (by intro _ _; rfl)) pe_str (nomark _))))))
      (pss_cons (ps_expr (pe_bm0 PySem.F.plainAttrs_list PySem.F.slot_list_pop PySem.F.type_list_pop mt_pop (pv 1)))
      (pss_cons (ps_ret (pv 2)) pss_nil)))) pss_nil) pss_never, ?_⟩
    have k0 : PySem.W.kitOne K (.type "list") (.type "list") = some true := kit_data (K := K) (.list []) "list" rfl
    refine ⟨.ref b, rfl, .ref b, .ty "list", _, _, true, rfl, .ty _, .base (.lst hb), k0, true, rfl, ?_⟩
    refine ifT ?_
    refine ⟨.ref b, rfl, .inl ⟨rfl, ws, SqL.of hb⟩, b, ws, _, rfl, rfl, hb, hl, ?_⟩
    have h1 : upd H b (.lst (ws ++ [.str " late "])) b = some (.lst (ws ++ [.str " late "])) := upd_same
    have len1 : LenV K (.ref b) (upd H b (.lst (ws ++ [.str " late "]))) (ws ++ [V.str " late "]).length := .inl ⟨_, SqL.of h1, rfl⟩
    have hx : upd (upd H b (.lst (ws ++ [V.str " late "]))) b (.lst (ws ++ [V.str " late "]).dropLast) = H := by
      rw [List.dropLast_concat]
      funext c
      by_cases z : c = b
      · subst z; rw [upd_same, hb]
      · rw [upd_ne z, upd_ne z]
    refine ⟨.ref b, rfl, .ref b, .ty "list", _, _, true, rfl, .ty _, .base (.lst h1), k0, true, rfl, ifT ?_⟩
    refine ⟨.ref b, rfl, .ref b, _, rfl, len1, .ref b, rfl, .ref b, _, rfl, len1, rfl, true, by simp, ifT ?_⟩
    refine ⟨.ref b, rfl, ⟨_, rfl, .inl ⟨b, _, _, _, rfl, rfl, SqL.of h1, atI_last ws _, rfl, ?_⟩⟩⟩
    refine ⟨.ref b, rfl, .inl ⟨rfl, _, SqL.of h1⟩, b, _, .str " late ", rfl, rfl, h1, by rw [List.length_append]; exact List.getElem?_concat_length, ?_⟩
    rw [hx]
    refine ⟨.bl _, rfl, ?_⟩
    simpa using hq
theorem very_dct (T : Txt K mg a fd) (hdct : mg "dict" = none) (D : FunD K "_law_very" "_law_very" (defArgs sVery) (defBody sVery) (defScope sVery) [] [] g fdv) : FnOk P w K mg base CX0 (n + 1) g fdv ["kept", "thing"] (fun vs H Q E => ∃ b kvs, vs = [.ref b, .ref b] ∧ H b = some (.dK kvs) ∧ NoStr kvs ∧ kvs.length < sizeLine ∧ Q (.bl true) H) := by
  refine D.ok sc_very (fun vs H Q E h => ?_) (fun cdv A outer s H vs Q E hr h => ?_)
  · obtain ⟨_, _, rfl, _⟩ := h
    rfl
  · obtain ⟨b, kvs, rfl, hb, hns, hl, hq⟩ := h
    have hu : (A.deeper (envOfC "_law_very" (defScope sVery) s.heap.objs.size g cdv)).units + 1 < cLine := by have := hr.units; omega
    have bd : bootBuiltins "dict" = some (.type "dict") := by decide +kernel
    refine ⟨_, pss_cons (ps_if (pt_val (pe_callB call_isi rfl T.f_isinstance PyProof.Rows.boot_isinstance (pa_cons (pv 1) (pa_ty rfl T.f_list PyProof.Rows.boot_list pa_ty0)) (by decide) (by decide))) pss_never pss_nil)
      (pss_cons (ps_if (pt_val (pe_callB call_isi rfl T.f_isinstance PyProof.Rows.boot_isinstance (pa_cons (pv 1) (pa_ty rfl hdct bd pa_ty0)) (by decide) (by decide)))
      (pss_cons (ps_dput hu (pv 1) pe_str pe_int rfl)
      (pss_cons (ps_set (i := 2) sc_very.nd rfl (Or.inl rfl) (pe_and (pe_callB call_isi rfl T.f_isinstance PyProof.Rows.boot_isinstance (pa_cons (pv 0) (pa_ty rfl hdct bd pa_ty0)) (by decide) (by decide))
        (pe_and (pe_cmpR op_eq (pe_callB call_lenD rfl T.f_len PySem.boot_len (pa_cons (pv 0) pa_nil) (by decide) (by decide)) (pe_callB call_lenD rfl T.f_len PySem.boot_len (pa_cons (pv 1) pa_nil) (by decide) (by decide)) (nomark _))
        (pe_one (pe_cmpR op_eq (pe_dget1 hu (pv 0) pe_str ⟨rfl, rfl, rfl, rfl⟩) pe_int (nomark _))))))
      (pss_cons (ps_expr (pe_dpop1 (pv 1) pe_str ⟨rfl, rfl, rfl, rfl⟩))
      (pss_cons (ps_ret (pv 2)) pss_nil)))) pss_nil) pss_never), ?_⟩
    have k0 : PySem.W.kitOne K (.type "dict") (.type "list") = some false := kit_data (K := K) (.dict []) "list" rfl
    have k1 : PySem.W.kitOne K (.type "dict") (.type "dict") = some true := kit_data (K := K) (.dict []) "dict" rfl
    refine ⟨.ref b, rfl, .ref b, .ty "list", _, _, false, rfl, .ty _, .base (.dK hb), k0, false, rfl, ifF ?_⟩
    refine ⟨.ref b, rfl, .ref b, .ty "dict", _, _, true, rfl, .ty _, .base (.dK hb), k1, true, rfl, ifT ?_⟩
    have z1 := put_late hns (.int 7)
    have h1 : upd H b (.dK (kvs ++ [(.inr " late ", .int 7)])) b = some (.dK (kvs ++ [(.inr " late ", .int 7)])) := upd_same
    have hx : upd (upd H b (.dK (kvs ++ [(.inr " late ", .int 7)]))) b (.dK kvs) = H := by
      funext c
      by_cases z : c = b
      · subst z; rw [upd_same, hb]
      · rw [upd_ne z, upd_ne z]
    refine ⟨.ref b, rfl, b, upd H b (.dK (kvs ++ [(.inr " late ", .int 7)])), rfl, by rw [← z1]; exact DPut.k (k := .inr " late ") hb hl, ?_⟩
    refine ⟨.ref b, rfl, .ref b, .ty "dict", _, _, true, rfl, .ty _, .base (.dK h1), k1, true, rfl, ifT ?_⟩
    refine ⟨.ref b, rfl, b, _, rfl, h1, .ref b, rfl, b, _, rfl, h1, rfl, true, by simp, ifT ?_⟩
    refine ⟨.ref b, rfl, b, rfl, .inl ⟨_, .inl h1⟩, _, DGet.k (k := .inr " late ") h1, by rw [val_late hns (.int 7)]; rfl, ?_⟩
    refine ⟨.ref b, rfl, b, rfl, .inl ⟨_, .inl h1⟩, _, .inr " late ", .int 7, h1, rfl, val_late hns (.int 7), ?_⟩
    rw [drop_late hns (.int 7), hx]
    refine ⟨.bl _, rfl, ?_⟩
    rw [val_late hns (.int 7)]
    simpa using hq
end
theorem same_plain {d : PyData} (h : ThD d = true) (h1 : ∀ xs, d ≠ .list xs) (h2 : ∀ xs, d ≠ .dict xs) : d.canLay0 = true ∧ dep d ≤ 4 := by
  have ints' : ∀ {xs : List PyData}, xs.all isInt = true → PyData.canLayAll0 xs = true ∧ depA xs ≤ 1 := by
    intro xs
    induction xs with
    | nil => exact fun _ => ⟨rfl, by simp [depA]⟩
    | cons x xs ih =>
      intro h
      rw [List.all_cons, Bool.and_eq_true] at h
      obtain ⟨a, b⟩ := ih h.2
      cases x with
      | int i => exact ⟨by simp [PyData.canLayAll0, PyData.canLay0, a], by simp [depA, dep]; omega⟩
      | _ => cases h.1
  cases d with
  | list xs => exact absurd rfl (h1 xs)
  | dict xs => exact absurd rfl (h2 xs)
  | none => exact ⟨rfl, by simp [dep]⟩
  | bool b => exact ⟨rfl, by simp [dep]⟩
  | int b => exact ⟨rfl, by simp [dep]⟩
  | str x =>
    exact ⟨h, by simp [dep]⟩
  | tuple xs =>
    have h : (decide (xs.length ≤ 3) && xs.all isInt) = true := h
    rw [Bool.and_eq_true, decide_eq_true_eq] at h
    obtain ⟨a, b⟩ := ints' h.2
    exact ⟨by simp [PyData.canLay0, a], by simp [dep]; omega⟩
theorem very_plain {n : Nat} {d : PyData} (h : ThD d = true) (h1 : ∀ xs, d ≠ .list xs) (h2 : ∀ xs, d ≠ .dict xs) : callN Φ (n + 6) 45 [.imm d, .imm d] = some (.imm (.bool true), []) := by
  obtain ⟨a, b⟩ := same_plain h h1 h2
  have hs := same_ok 4 n d a b
  cases d with
  | list xs => exact absurd rfl (h1 xs)
  | dict xs => exact absurd rfl (h2 xs)
  | _ =>
    rw [callN_code h__law_very rfl rfl]
    simp -implicitDefEqProofs [i__law_very, isiD, isi1, kindD, hs, show cmpD .isN .none .none = some true from rfl]
/-- an object drawn -/
def Thing (K : Frag) (H : Hp) (v : V) : Prop := ∃ d F, Same F H ∧ NoTb F ∧ Dn K F v d ∧ ThD d = true
theorem Thing.ext {K : Frag} {H H' : Hp} {v : V} (h : Thing K H v) (e : ExtN H H') : Thing K H' v := by
  obtain ⟨d, F, s, n, dn, t⟩ := h
  exact ⟨d, F, fun b x hb => e b x (s b x hb) fun ps z => n b ps (by rw [hb, z]), n, dn, t⟩
def spVery (K : Frag) : Sp := fun vs H Q _ => ∃ v, vs = [v, v] ∧ Thing K H v ∧ ∀ H', Same H H' → Q (.bl true) H'
section
variable {P : Program} {w : World} {K : Frag} {mg : Str → Option Value} {base : Heap} {a : Nat → Addr} {fd : Nat → FuncData} {n : Nat}
theorem plain {v : V} {d : PyData} {F H : Hp} {Q : VK} {E : XK} (dn : Dn K F v d) (hv : ThD d = true) (h1 : ∀ xs, d ≠ .list xs) (h2 : ∀ xs, d ≠ .dict xs) (sF : Same F H) (hq : ∀ H', Same H H' → Q (.bl true) H') : spF K (callN Φ (n + 6)) 45 2 [v, v] H Q E := by
  have e : ows [v, v] [.imm d, .imm d] = [] := by cases v <;> rfl
  refine ⟨F, [.imm d, .imm d], .imm (.bool true), [], sF, .imm dn (.imm dn .nil), by rw [e]; exact List.nodup_nil, rfl, very_plain hv h1 h2, fun v' H' F' R => ?_⟩
  have hr := R.res
  cases hr
  exact hq H' fun b x h => R.frm b x h (by rw [e]; simp)
theorem dnK_len {K : Frag} {F : Hp} : ∀ {vs : List (L2.Key × V)} {ds : List (L2.Key × PyData)}, DnK K F vs ds → vs.length = ds.length
  | _, _, .nil => rfl
  | _, _, .cons _ t => by simp [dnK_len t]
theorem dnK_noStr {K : Frag} {F : Hp} : ∀ {vs : List (L2.Key × V)} {ds : List (L2.Key × PyData)}, DnK K F vs ds → (∀ p ∈ ds, isInt (keyD p.1) = true) → NoStr vs
  | _, _, .nil, _ => fun p hp => by cases hp
  | _, _, .cons _ t, h => fun p hp => by
    rcases List.mem_cons.mp hp with rfl | hp
    · intro x e
      have z := h _ List.mem_cons_self
      dsimp only at z e
      rw [e] at z
      cases z
    · exact dnK_noStr t (fun q hq => h q (List.mem_cons_of_mem _ hq)) p hp
theorem very_ok (g : Good P w K mg base a fd (n + 6)) (T : Txt K mg a fd) : FnOk P w K mg base CX0 (n + 6) (a 45) (fd 45) p__law_very (spVery K) := by
  have Fl := very_list (P := P) (w := w) (base := base) (n := n + 5) T T.d__law_very
  have Fd := very_dct (P := P) (w := w) (base := base) (n := n + 5) T T.f_dict T.d__law_very
  refine ⟨fun vs H Q E h => ?_, fun A outer s H args us vs Q E hr e0 hb r h => ?_⟩
  · obtain ⟨v, rfl, _⟩ := h
    rfl
  · obtain ⟨v, rfl, ⟨d, F, sF, _, dn, hv⟩, hq⟩ := h
    have big : (1000 : Nat) < sizeLine := by rw [sizeLine_eq]; decide
    cases dn with
    | lst h1 h2 =>
      have hv : (decide _ && _) = true := hv
      rw [Bool.and_eq_true, decide_eq_true_eq] at hv
      exact Fl.run A outer s H args us _ Q E hr e0 hb r ⟨_, _, rfl, sF _ _ h1, by have := h2.len; omega, hq H (.refl _)⟩
    | dct h1 h2 h3 =>
      subst h3
      have hv : (decide _ && _) = true := hv
      rw [Bool.and_eq_true, decide_eq_true_eq, List.length_map, List.all_map, List.all_eq_true] at hv
      exact Fd.run A outer s H args us _ Q E hr e0 hb r ⟨_, _, rfl, sF _ _ h1, dnK_noStr h2 fun p hp => hv.2 p hp, by have := dnK_len h2; omega, hq H (.refl _)⟩
    | non => exact (g.g__law_very).run A outer s H args us _ Q E hr e0 hb r (plain (.non) hv (fun _ z => by cases z) (fun _ z => by cases z) sF hq)
    | bl b => exact (g.g__law_very).run A outer s H args us _ Q E hr e0 hb r (plain (.bl b) hv (fun _ z => by cases z) (fun _ z => by cases z) sF hq)
    | int i => exact (g.g__law_very).run A outer s H args us _ Q E hr e0 hb r (plain (.int i) hv (fun _ z => by cases z) (fun _ z => by cases z) sF hq)
    | str x => exact (g.g__law_very).run A outer s H args us _ Q E hr e0 hb r (plain (.str x) hv (fun _ z => by cases z) (fun _ z => by cases z) sF hq)
    | tup h1 h2 => exact (g.g__law_very).run A outer s H args us _ Q E hr e0 hb r (plain (.tup h1 h2) hv (fun _ z => by cases z) (fun _ z => by cases z) sF hq)
end
end LW
set_option Elab.async false
set_option linter.all false
set_option maxRecDepth 100000
set_option maxHeartbeats 0
/-! W2: found.append((C(x, ..), C(f = x, ..), lambda e: [e.f, ..], [x, ..])). -/
namespace LW
open PySem PySem.Spec PyProof.Rows L2 RT RZ Ev LamX LamD SupX
/-- the row at r: an error by place, one by names, how to read them, what they have to keep -/
def RowAt (H : Hp) (r C : Addr) (fs : List Str) (vs : List V) : Prop := ∃ e1 e2 lam ls al, H r = some (.tup [.ref e1, .ref e2, .ref lam, .ref ls]) ∧ ExAt H e1 C al ∧ ExAt H e2 C al ∧ LookAt H lam fs ∧ H ls = some (.lst vs) ∧ fs.map (fun f => al.lookup f) = vs.map some
theorem RowAt.ext {H H' : Hp} {r C : Addr} {fs : List Str} {vs : List V} (h : RowAt H r C fs vs) (e : ExtN H H') : RowAt H' r C fs vs := by
  obtain ⟨e1, e2, lam, ls, al, h1, h2, h3, h4, h5, h6⟩ := h
  exact ⟨e1, e2, lam, ls, al, e _ _ h1 (fun ps z => by cases z), h2.ext e, h3.ext e, h4.ext e, e _ _ h5 (fun ps z => by cases z), h6⟩
/-- all but the list at b, and the tables -/
def cutH (b : Addr) (H : Hp) : Hp := fun c => if c = b then none else untb H c
theorem cut_b {b : Addr} {H : Hp} : cutH b H b = none := if_pos rfl
theorem cut_some {b c : Addr} {H : Hp} {o : HO} (h : H c = some o) (hb : c ≠ b) (n : ∀ ps, o ≠ .tbl ps) : cutH b H c = some o := by
  unfold cutH
  rw [if_neg hb]
  exact untb_some h n
theorem cut_le {b : Addr} {H : Hp} : Same (cutH b H) H := fun c o h => by
  unfold cutH at h
  split at h
  · cases h
  · exact untb_le _ _ h
theorem cut_no {b : Addr} {H : Hp} : NoTb (cutH b H) := fun c ps h => by
  unfold cutH at h
  split at h
  · cases h
  · exact untb_no _ _ h
/-- growth away from b -/
def Gr (b : Addr) (H H' : Hp) : Prop := ∀ c o, c ≠ b → H c = some o → (∀ ps, o ≠ .tbl ps) → H' c = some o
theorem Gr.cut {b : Addr} {H H' : Hp} (g : Gr b H H') : Same (cutH b H) (cutH b H') := fun c o h => by
  have hb : c ≠ b := fun z => by rw [z, cut_b] at h; cases h
  have hn : ∀ ps, o ≠ .tbl ps := fun ps z => cut_no c ps (by rw [h, z])
  exact cut_some (g c o hb (cut_le _ _ h) hn) hb hn
theorem Gr.of {b : Addr} {H H' : Hp} (e : ExtN H H') : Gr b H H' := fun c o _ h n => e c o h n
theorem Gr.trans {b : Addr} {H H1 H2 : Hp} (g : Gr b H H1) (g' : Gr b H1 H2) : Gr b H H2 := fun c o hb h n => g' c o hb (g c o hb h n) n
theorem cut_upd {b : Addr} {H : Hp} {o : HO} : cutH b (upd H b o) = cutH b H := by
  funext c
  unfold cutH
  by_cases hc : c = b
  · rw [if_pos hc, if_pos hc]
  · rw [if_neg hc, if_neg hc]
    unfold untb
    rw [upd_ne hc]
theorem tabs_upd {T : List (Addr × Str)} {H : Hp} {b : Addr} {ws us : List V} (t : Tabs T H) (hb : H b = some (.lst ws)) : Tabs T (upd H b (.lst us)) := fun p hp => by
  obtain ⟨ps, h1, h2, h3⟩ := t p hp
  refine ⟨ps, by rw [upd_ne fun z => by rw [z, hb] at h1; cases h1]; exact h1, h2, fun pos cv hc => ?_⟩
  obtain ⟨c, e1, e2⟩ := h3 pos cv hc
  exact ⟨c, e1, by rw [upd_ne fun z => by rw [z, hb] at e2; unfold CodeO at e2; cases e2]; exact e2⟩
theorem zip_look : ∀ {fs : List Str} {vs : List V}, fs.Nodup → vs.length = fs.length → fs.map (fun f => ((fs.zip vs).reverse).lookup f) = vs.map some := by
  have key : ∀ (fs : List Str) (vs : List V), fs.Nodup → vs.length = fs.length → ∀ i (h : i < fs.length) (h' : i < vs.length), ((fs.zip vs).reverse).lookup fs[i] = some vs[i] := by
    intro fs
    induction fs with
    | nil => intro vs _ _ i h; exact absurd h (Nat.not_lt_zero _)
    | cons f fs ih =>
      intro vs nd hl i h h'
      cases vs with
      | nil => simp at hl
      | cons v vs =>
        rw [List.nodup_cons] at nd
        have app : ∀ (l : List (Str × V)) (g : Str), (l ++ [(f, v)]).lookup g = match l.lookup g with
          | some x => some x
          | none => if g = f then some v else none := by
          intro l g
          induction l with
          | nil =>
            by_cases z : g = f
            · subst z; simp [List.lookup]
            · have z' : (g == f) = false := by simpa using z
              simp [List.lookup, z, z']
          | cons p l ih2 =>
            obtain ⟨k, w⟩ := p
            by_cases z : g = k
            · subst z; simp [List.lookup]
            · have z' : (g == k) = false := by simpa using z
              simp only [List.cons_append, List.lookup, z']
              exact ih2
        rw [List.zip_cons_cons, List.reverse_cons, app]
        cases i with
        | zero =>
          have hn : ((fs.zip vs).reverse).lookup f = none := by
            rw [List.lookup_eq_none_iff]
            intro p hp
            obtain ⟨a, b⟩ := p
            have hm := (List.of_mem_zip (List.mem_reverse.mp hp)).1
            have ne : ¬ f = a := fun z => nd.1 (z ▸ hm)
            simpa using ne
          show (match ((fs.zip vs).reverse).lookup f with
            | some x => some x
            | none => if f = f then some v else none) = some v
          rw [hn]
          exact if_pos rfl
        | succ i =>
          show (match ((fs.zip vs).reverse).lookup (fs[i]'(by simpa using h)) with
            | some x => some x
            | none => _) = some (vs[i]'(by simpa using h'))
          rw [ih vs nd.2 (by simpa using hl) i (by simpa using h) (by simpa using h')]
  intro fs vs nd hl
  apply List.ext_getElem
  · simp [hl]
  · intro i h1 h2
    rw [List.getElem_map, List.getElem_map]
    exact key fs vs nd hl i (by simpa using h1) (by simpa using h2)
theorem clo_nil {cells : List (Str × Addr)} : ∀ (names : List (Str × NameKind)) (acc : List (Str × Addr)), (∀ y ∈ names, y.2 ≠ .free) → cloFrom cells names acc = acc
  | [], _, _ => rfl
  | (n, k) :: r, acc, h => by
    unfold cloFrom
    have hk : (k == NameKind.free) = false := by
      have := h _ List.mem_cons_self
      cases k <;> first | rfl | exact absurd rfl this
    rw [hk, if_neg Bool.false_ne_true]
    exact clo_nil r acc fun y hy => h y (List.mem_cons_of_mem _ hy)
section
variable {X : Cx} {T : List (Addr × Str)} {c P C : Addr} {i j : Nat} {y cn : Str} {fs ks : List Str} {pm : List Nat} {params : Arguments} {lb : Expr} {scope : Scope} {ta : TA} {e : Expr} {es els : List Expr} {kws : List Keyword} {p1 p2 p3 p4 p5 p6 p7 p8 p9 p10 p11 : Pos}
/-- the reading -/
def tRow (T : List (Addr × Str)) (i : Nat) (C : Addr) (fs : List Str) (pm : List Nat) (ta : TA) : TS := fun D σ H => Tabs T H ∧ ∃ b ws vs, σ[i]? = some (some (.ref b)) ∧ H b = some (.lst ws) ∧ ws.length < 1000 ∧ (∀ H' Q, Q vs H' → ta σ H' Q) ∧ vs.length = fs.length ∧ fs.Nodup ∧ fs ≠ [] ∧ fs.length ≤ 100 ∧ permV pm vs = vs ∧
  ∀ H' r, Gr b H H' → Tabs T H' → H' b = some (.lst (ws ++ [.ref r])) → RowAt (cutH b H') r C fs vs → D.nx σ H'
theorem ps_row (hkl : ks.length = fs.length) (TC : ClsOk X.prog X.K X.mg cn C fs ks pm) (hr : Room j X.A) (ha : PA X (e :: es) ta) (ha2 : PA X els ta) (hkw : PK X kws ta) (hg : Gl X cn) (S : LookS params lb scope fs)
    (TB : TabB X.base X.mg c P) (hcode : X.env.code = .ref c) (hm : (P, X.env.qual ++ "<lambda>") ∈ T) (hu : ∀ p ∈ T, p.1 = P → p.2 = X.env.qual ++ "<lambda>") (hdef : defaultsOf params X.env = ([], []))
    (hN : X.N[i]? = some y) (hv : Vis X.env.scope y) (hd : (y == ("__debug__" : Str)) = false) (hcd : (y == ("__classdict__" : Str)) = false) (hdb : (cn == ("__debug__" : Str)) = false)
    (he : starEach (e :: es) X.env = (false, eval e X.env) :: starEach es X.env) (hpl : (backTo p4 (starEach es X.env)).any (·.1) = false) (hall : (backToKw p6 (keywordEach kws X.env)).all (·.1.isSome) = true) (hks : (backToKw p6 (keywordEach kws X.env)).filterMap (·.1) = ks)
    (hplk : ((backTo p6 (starEach [] X.env)).any (·.1) || (backToKw p6 (keywordEach kws X.env)).any (·.1.isNone)) = false) (hline : (p2.endLine == p10.line) = true) :
    PS X (.Expr (.Call (.Attribute (.Name y p1) "append" p2) [.Tuple [.Call (.Name cn p3) (e :: es) [] p4, .Call (.Name cn p5) [] kws p6, .Lambda params lb scope p7, .List els p8] 0 p9] [] p10) p11) (tRow T i C fs pm ta) := by
  have hfree : X.Ok → ∀ y ∈ scope.names, y.2 = .free → ∃ c, X.env.cells.lookup y.1 = some c := fun _ y hy e => absurd e (S.sc.nofree y hy)
  have hclo : cloFrom X.env.cells scope.names [] = [] := clo_nil scope.names [] S.sc.nofree
  have h0 := ps_expr (pos := p11) (pe_bm (apos := p2) (cpos := p10) PySem.F.plainAttrs_list PySem.F.slot_list_append PySem.F.type_list_append mt_append (pe_var (pos := p1) (i := i) hN hv hd hcd) (pa_cons (pe_tup (x1 := 0) (pos := p9) (pa_cons (pe_exN (p := p3) (pos := p4) TC hr ha hg hdb he hpl) (pa_cons (pe_exK (p := p5) (pos := p6) TC hr hg hkw hall hks hdb hplk) (pa_cons (pe_lam0 (body := lb) (pos := p7) TB hcode hm hu hdef hfree) (pa_cons (pe_lst (pos := p8) ha2) pa_nil))))) pa_nil) (hline := hline))
  refine ⟨fun pins s σ H D I h => h0.run pins s σ H D I ?_⟩
  obtain ⟨hT, b, ws, vs, hb, hw, hl, hta, hvl, hnd, hne, hfl, hpm, hk⟩ := h
  have e0 : (1000 : Nat) < sizeLine := by rw [sizeLine_eq]; decide
  have nt : ∀ (xs : List V) (ps : Array Value), (HO.lst xs) ≠ .tbl ps := fun _ _ z => by cases z
  have look := zip_look hnd hvl
  have hlk : vs.length = ks.length := hvl.trans hkl.symm
  refine ⟨.ref b, hb, .inl ⟨rfl, ws, SqL.of hw⟩, ?_⟩
  -- by place
  refine hta _ _ ⟨hvl, hne, fun e1 d1 n1 m1 x1 => ?_⟩
  refine hta _ _ ⟨hlk, by rw [hpm]; exact hvl, hne, fun e2 d2 n2 m2 x2 => ?_⟩
  rw [hpm]
  generalize hH2 : upd (upd (upd (upd H d1 (exd d1 (fs.zip vs).reverse)) e1 (exo e1 C (some d1))) d2 (exd d2 (fs.zip vs).reverse)) e2 (exo e2 C (some d2)) = H2
  have ne1 : ∀ {A : Hp} {a b : Addr} {o : HO}, upd A b o a = none → a ≠ b ∧ A a = none := fun {A a b o} z => by
    by_cases q : a = b
    · rw [q, upd_same] at z; cases z
    · rw [upd_ne q] at z; exact ⟨q, z⟩
  obtain ⟨a1, a2⟩ := ne1 n2
  obtain ⟨a3, a4⟩ := ne1 a2
  obtain ⟨a5, a6⟩ := ne1 m2
  obtain ⟨a7, a8⟩ := ne1 a6
  -- what stands
  have s2 : Same H H2 := fun q o h => by
    have z1 : q ≠ d1 := fun z => by rw [z, m1] at h; cases h
    have z2 : q ≠ e1 := fun z => by rw [z, n1] at h; cases h
    have z3 : q ≠ d2 := fun z => by rw [z, a8] at h; cases h
    have z4 : q ≠ e2 := fun z => by rw [z, a4] at h; cases h
    rw [← hH2, upd_ne z4, upd_ne z3, upd_ne z2, upd_ne z1]
    exact h
  have g1 : H2 e1 = some (exo e1 C (some d1)) := by rw [← hH2, upd_ne a1.symm, upd_ne a5.symm, upd_same]
  have g2 : H2 d1 = some (exd d1 (fs.zip vs).reverse) := by rw [← hH2, upd_ne a3.symm, upd_ne a7.symm, upd_ne x1, upd_same]
  have g3 : H2 e2 = some (exo e2 C (some d2)) := by rw [← hH2, upd_same]
  have g4 : H2 d2 = some (exd d2 (fs.zip vs).reverse) := by rw [← hH2, upd_ne x2, upd_same]
  refine ⟨hT.ext s2, fun lam H3 eN mo T3 nlam hlam => ?_⟩
  refine hta _ _ ⟨by omega, fun ls nls => ?_⟩
  have s34 : Same H3 (upd H3 ls (.lst vs)) := same_upd nls
  refine ⟨by rw [sizeLine_eq]; exact (by decide : 4 ≤ 16777216), fun r nr => ?_⟩
  have s45 : Same (upd H3 ls (.lst vs)) (upd (upd H3 ls (.lst vs)) r (.tup [.ref e1, .ref e2, .ref lam, .ref ls])) := same_upd nr
  generalize hH5 : upd (upd H3 ls (.lst vs)) r (.tup [.ref e1, .ref e2, .ref lam, .ref ls]) = H5 at s45
  have e25 : ExtN H2 H5 := eN.trans (ExtN.of (s34.trans s45))
  have hb5 : H5 b = some (.lst ws) := e25 _ _ (s2 _ _ hw) (nt ws)
  have h3b : H3 b = some (.lst ws) := eN _ _ (s2 _ _ hw) (nt ws)
  have lsb : ls ≠ b := fun z => by rw [z, h3b] at nls; cases nls
  have t5 : Tabs T H5 := T3.ext (s34.trans s45)
  refine ⟨b, ws, _, rfl, rfl, hb5, by omega, ?_⟩
  refine hk _ r (fun q o hq h hn => ?_) (tabs_upd t5 hb5) upd_same ?_
  · rw [upd_ne hq]
    exact e25 _ _ (s2 _ _ h) hn
  · rw [cut_upd]
    have ext : ∀ {q : Addr} {o : HO}, H5 q = some o → (∀ ps, o ≠ .tbl ps) → (∀ xs, o ≠ .lst xs) → cutH b H5 q = some o := fun {q o} h n1 n2 => cut_some h (fun z => by rw [z, hb5] at h; cases h; exact n2 _ rfl) n1
    have xn : ∀ {a : Addr} {d : Option Addr} {xs : List V}, exo a C d ≠ .lst xs := fun z => by unfold exo at z; cases z
    have dn : ∀ {a : Addr} {l : List (Str × V)} {xs : List V}, exd a l ≠ .lst xs := fun z => by unfold exd at z; cases z
    refine ⟨e1, e2, lam, ls, (fs.zip vs).reverse, ?_, ⟨some d1, ?_, ?_⟩, ⟨some d2, ?_, ?_⟩, ⟨X.env.qual ++ "<lambda>", params, lb, scope, ?_, S⟩, ?_, look⟩
    · exact ext (by rw [← hH5, upd_same]) (fun _ z => by cases z) (fun _ z => by cases z)
    · exact ext (e25 _ _ g1 fun _ => exo_tbl) (fun _ => exo_tbl) fun _ => xn
    · exact ext (e25 _ _ g2 fun _ => exd_tbl) (fun _ => exd_tbl) fun _ => dn
    · exact ext (e25 _ _ g3 fun _ => exo_tbl) (fun _ => exo_tbl) fun _ => xn
    · exact ext (e25 _ _ g4 fun _ => exd_tbl) (fun _ => exd_tbl) fun _ => dn
    · rw [hclo] at hlam
      obtain ⟨c', dT, l1, l2, l3⟩ := hlam.ext (ExtN.of (s34.trans s45))
      refine ⟨c', dT, ext l1 (fun _ => lamO_ne _) (fun _ z => by unfold LamO at z; cases z), ext l2 codeO_ne (fun _ z => by unfold CodeO at z; cases z), .inl ?_⟩
      rcases l3 with l3 | ⟨_, _, z, _⟩
      · exact l3
      · exact absurd rfl z
    · exact cut_some (s45 _ _ upd_same) lsb (nt vs)
end
end LW
set_option Elab.async false
set_option linter.all false
set_option maxRecDepth 100000
set_option maxHeartbeats 0
/-! printed by genW3.py: the classes, and the defs that make the rows -/
namespace LW
open PySem PySem.Spec PyProof.Rows L2 RT RZ Ev LamX LamD SupX
def cT0 : List (Str × List Str) := [("BadQuestion", ["question"]), ("BadCode", ["code"]), ("Unrun", ["index"]), ("BadRatio", ["ratio"]), ("Nought", ["ratio"]), ("BadPoly", ["poly"]), ("BadTree", ["tree"]), ("BadPath", ["path"])]
def cT1 : List (Str × List Str) := [("BadBook", ["book"]), ("NoName", ["named"]), ("TooGreat", ["most"]), ("Refused", ["path"]), ("BadNumber", ["number"]), ("BadRow", ["row"]), ("BadSize", ["size"]), ("TooShort", ["row"])]
def cT2 : List (Str × List Str) := [("BadWord", ["word"]), ("BadLines", ["lines"]), ("BadLoop", ["loop"]), ("BadChain", ["chain"]), ("BadMove", ["move"]), ("Unfit", ["move"]), ("BadName", ["name"]), ("Taken", ["name"])]
def cT3 : List (Str × List Str) := [("Crowded", ["name"]), ("BadStep", ["step"]), ("BadSteps", ["steps"]), ("Barred", ["fault"]), ("BadPaper", ["paper"]), ("BadJournal", ["journal"]), ("BadOperator", ["operator"]), ("BadRule", ["rule"])]
def cT4 : List (Str × List Str) := [("Stuck", ["number"]), ("Unright", ["word", "path"]), ("Used", ["named", "by"]), ("BadText", ["text", "line"]), ("Unread", ["text", "place"]), ("NothingDone", []), ("NothingUndone", []), ("Breaks", ["name", "word", "path"])]
def cT5 : List (Str × List Str) := [("Unguarded", ["word", "index", "path"])]
/-- the classes in the order of the law's kinds: name, fields -/
def cT : List (Str × List Str) := cT0 ++ cT1 ++ cT2 ++ cT3 ++ cT4 ++ cT5
def cF (i : Nat) : List Str := ((cT[i]?).map (·.2)).getD []
structure CTxt (prog : Program) (K : Frag) (mg : Str → Option Value) (ca : Nat → Addr) (cm : Addr) : Prop where
  ok : ∀ i n fs, cT[i]? = some (n, fs) → ClsOk prog K mg n (ca i) fs fs (List.range fs.length)
  okB : ClsOk prog K mg "Breaks" (ca 39) ["name", "word", "path"] ["path", "word", "name"] [2, 1, 0]
  okU : ClsOk prog K mg "Unguarded" (ca 40) ["word", "index", "path"] ["path", "index", "word"] [2, 1, 0]
  xf : ∀ i n fs, cT[i]? = some (n, fs) → XfC K (ca i) ∧ ExcC K (ca i) ∧ ∀ f ∈ fs, PySem.W.findIn K (.ref (ca i)) f = some none
  mgC : ∀ i n fs, cT[i]? = some (n, fs) → mg n = some (.ref (ca i))
  kit : ∀ i j, i < 41 → j < 41 → PySem.W.kitOne K (.ref (ca i)) (.ref (ca j)) = some (decide (i = j))
  kitM : ∀ i, i < 41 → PySem.W.kitOne K (.ref (ca i)) (.ref cm) = some true
  kitV : ∀ i, i < 41 → PySem.W.kitOne K (.ref (ca i)) (.type "ValueError") = some true
  mgM : mg "MillError" = some (.ref cm)
  fV : mg "ValueError" = none
  fE : mg "enumerate" = none
  fA : mg "any" = none
structure Own1 (base : Heap) (mg : Str → Option Value) (Tb : List (Addr × Str)) (q : Str) (c Pt : Addr) : Prop where
  tb : TabB base mg c Pt
  mem : (Pt, q) ∈ Tb
  uniq : ∀ p ∈ Tb, p.1 = Pt → p.2 = q
/-- the rows rs of the classes from lo on, of the things vs -/
def RowsAt (H : Hp) (ca : Nat → Addr) (lo : Nat) (vs : List V) (rs : List Addr) : Prop := ∀ i r, rs[i]? = some r → RowAt H r (ca (lo + i)) (cF (lo + i)) vs
theorem RowsAt.ext {H H' : Hp} {ca : Nat → Addr} {lo : Nat} {vs : List V} {rs : List Addr} (h : RowsAt H ca lo vs rs) (e : ExtN H H') : RowsAt H' ca lo vs rs := fun i r hr => (h i r hr).ext e
theorem z_zero {n : Nat} (h : n = 0) : n = 0 := h
/-- on the way -/
structure RowsI (T : List (Addr × Str)) (ca : Nat → Addr) (lo : Nat) (vs : List V) (b : Addr) (H0 H : Hp) (rs : List Addr) (m : Nat) : Prop where
  gr : Gr b H0 H
  tb : Tabs T H
  lst : H b = some (.lst (rs.map V.ref))
  len : rs.length = m
  rows : RowsAt (cutH b H) ca lo vs rs
theorem rows_step {T : List (Addr × Str)} {ca : Nat → Addr} {lo i m : Nat} {vs : List V} {b C : Addr} {H0 H : Hp} {rs : List Addr} {fs : List Str} {pm : List Nat} {ta : TA} {D : Ends} {σ : L2.St} (R : RowsI T ca lo vs b H0 H rs m) (hC : C = ca (lo + m)) (hfs : cF (lo + m) = fs)
    (hb : σ[i]? = some (some (.ref b))) (hta : ∀ H' Q, Q vs H' → ta σ H' Q) (hm : m < 900) (hvl : vs.length = fs.length) (hnd : fs.Nodup) (hne : fs ≠ []) (hfl : fs.length ≤ 100) (hpm : permV pm vs = vs) (hq : ∀ H' r, RowsI T ca lo vs b H0 H' (rs ++ [r]) (m + 1) → D.nx σ H') : tRow T i C fs pm ta D σ H := by
  refine ⟨R.tb, b, _, vs, hb, R.lst, by rw [List.length_map, R.len]; omega, hta, hvl, hnd, hne, hfl, hpm, fun H' r g t l rw' => hq H' r ⟨R.gr.trans g, t, ?_, ?_, fun j q hj => ?_⟩⟩
  · rw [l, List.map_append]
    rfl
  · rw [List.length_append, R.len]
    rfl
  · by_cases h : j < rs.length
    · rw [List.getElem?_append_left h] at hj
      exact (R.rows j q hj).ext (ExtN.of g.cut)
    · rw [List.getElem?_append_right (Nat.le_of_not_lt h)] at hj
      have e : j = m := by
        rw [← R.len]
        cases z : j - rs.length with
        | zero => omega
        | succ k => rw [z] at hj; cases hj
      rw [z_zero (by rw [R.len]; omega : j - rs.length = 0)] at hj
      cases hj
      rw [e, hfs, ← hC]
      exact rw'
def spRows (Tb : List (Addr × Str)) (ca : Nat → Addr) (lo n k : Nat) : Sp := fun vs H Q _ => vs.length = k ∧ Tabs Tb H ∧ ∀ H' p rs, ExtN H H' → Tabs Tb H' → H' p = some (.lst (rs.map V.ref)) → H p = none → rs.length = n → RowsAt H' ca lo vs rs → Q (.ref p) H'
section
variable {P : Program} {w : World} {K : Frag} {mg : Str → Option Value} {base : Heap} {n : Nat} {g : Addr} {fdv : FuncData} {ca : Nat → Addr} {cm c Pt : Addr} {Tb : List (Addr × Str)}
abbrev s_law_e_first : Stmt := top 60
theorem scr_law_e_first : FnScope ["x", "found"] ["x"] (defScope s_law_e_first) := ⟨rfl, rfl, rfl, by decide +kernel, rfl, by decide +kernel, by decide +kernel⟩
theorem ok_law_e_first (CT : CTxt P K mg ca cm) (D : FunD K "_law_e_first" "_law_e_first" (defArgs s_law_e_first) (defBody s_law_e_first) (defScope s_law_e_first) [] [] g fdv) (hcode : fdv.code = .ref c) (o : Own1 base mg Tb "_law_e_first.<locals>.<lambda>" c Pt) : FnOkG P w K mg base CX0 (n + 1) g fdv ["x"] (spRows Tb ca 0 11 1) := by
  refine fn_okG D scr_law_e_first (fun vs H Q E h => h.1) (fun cdv A outer s H vs Q E hr hgd hcd h => ?_)
  have hcv := hcd.symm.trans hcode
  have hp : PSs (cxOf CX0 P w K mg base ["x", "found"] "_law_e_first" (defScope s_law_e_first) g cdv A outer s H E) (defBody s_law_e_first) (tSeq (tAsg (tLst tNil) (gName 1)) (tSeq (tRow Tb 1 (ca 0) ["question"] [0] (tCons (tVar 0) tNil)) (tSeq (tRow Tb 1 (ca 1) ["code"] [0] (tCons (tVar 0) tNil)) (tSeq (tRow Tb 1 (ca 2) ["index"] [0] (tCons (tVar 0) tNil)) (tSeq (tRow Tb 1 (ca 3) ["ratio"] [0] (tCons (tVar 0) tNil)) (tSeq (tRow Tb 1 (ca 4) ["ratio"] [0] (tCons (tVar 0) tNil)) (tSeq (tRow Tb 1 (ca 5) ["poly"] [0] (tCons (tVar 0) tNil)) (tSeq (tRow Tb 1 (ca 6) ["tree"] [0] (tCons (tVar 0) tNil)) (tSeq (tRow Tb 1 (ca 7) ["path"] [0] (tCons (tVar 0) tNil)) (tSeq (tRow Tb 1 (ca 8) ["book"] [0] (tCons (tVar 0) tNil)) (tSeq (tRow Tb 1 (ca 9) ["named"] [0] (tCons (tVar 0) tNil)) (tSeq (tRow Tb 1 (ca 10) ["most"] [0] (tCons (tVar 0) tNil)) (tSeq (tRet (tVar 1)) tNext))))))))))))) := by
    refine pss_cons (ps_set (i := 1) scr_law_e_first.nd rfl (Or.inl rfl) (pe_lst pa_nil)) ?_
    refine pss_cons ?_ ?_
    · exact ps_row (i := 1) (y := "found") (fs := ["question"]) rfl (CT.ok 0 "BadQuestion" ["question"] rfl) hr (pa_cons (pv 0) pa_nil) (pa_cons (pv 0) pa_nil) (pk_cons (pv 0) pk_nil) rfl ⟨⟨rfl, rfl, rfl, by decide +kernel, rfl, by decide +kernel, by decide +kernel⟩, by decide +kernel, rfl, ⟨[("question", _, _)], _, rfl, rfl⟩, fun _ _ _ _ _ _ => rfl⟩ o.tb hcv o.mem o.uniq rfl rfl (Or.inl rfl) (by decide) (by decide) (by decide) rfl rfl rfl rfl rfl rfl
    refine pss_cons ?_ ?_
    · exact ps_row (i := 1) (y := "found") (fs := ["code"]) rfl (CT.ok 1 "BadCode" ["code"] rfl) hr (pa_cons (pv 0) pa_nil) (pa_cons (pv 0) pa_nil) (pk_cons (pv 0) pk_nil) rfl ⟨⟨rfl, rfl, rfl, by decide +kernel, rfl, by decide +kernel, by decide +kernel⟩, by decide +kernel, rfl, ⟨[("code", _, _)], _, rfl, rfl⟩, fun _ _ _ _ _ _ => rfl⟩ o.tb hcv o.mem o.uniq rfl rfl (Or.inl rfl) (by decide) (by decide) (by decide) rfl rfl rfl rfl rfl rfl
    refine pss_cons ?_ ?_
    · exact ps_row (i := 1) (y := "found") (fs := ["index"]) rfl (CT.ok 2 "Unrun" ["index"] rfl) hr (pa_cons (pv 0) pa_nil) (pa_cons (pv 0) pa_nil) (pk_cons (pv 0) pk_nil) rfl ⟨⟨rfl, rfl, rfl, by decide +kernel, rfl, by decide +kernel, by decide +kernel⟩, by decide +kernel, rfl, ⟨[("index", _, _)], _, rfl, rfl⟩, fun _ _ _ _ _ _ => rfl⟩ o.tb hcv o.mem o.uniq rfl rfl (Or.inl rfl) (by decide) (by decide) (by decide) rfl rfl rfl rfl rfl rfl
    refine pss_cons ?_ ?_
    · exact ps_row (i := 1) (y := "found") (fs := ["ratio"]) rfl (CT.ok 3 "BadRatio" ["ratio"] rfl) hr (pa_cons (pv 0) pa_nil) (pa_cons (pv 0) pa_nil) (pk_cons (pv 0) pk_nil) rfl ⟨⟨rfl, rfl, rfl, by decide +kernel, rfl, by decide +kernel, by decide +kernel⟩, by decide +kernel, rfl, ⟨[("ratio", _, _)], _, rfl, rfl⟩, fun _ _ _ _ _ _ => rfl⟩ o.tb hcv o.mem o.uniq rfl rfl (Or.inl rfl) (by decide) (by decide) (by decide) rfl rfl rfl rfl rfl rfl
    refine pss_cons ?_ ?_
    · exact ps_row (i := 1) (y := "found") (fs := ["ratio"]) rfl (CT.ok 4 "Nought" ["ratio"] rfl) hr (pa_cons (pv 0) pa_nil) (pa_cons (pv 0) pa_nil) (pk_cons (pv 0) pk_nil) rfl ⟨⟨rfl, rfl, rfl, by decide +kernel, rfl, by decide +kernel, by decide +kernel⟩, by decide +kernel, rfl, ⟨[("ratio", _, _)], _, rfl, rfl⟩, fun _ _ _ _ _ _ => rfl⟩ o.tb hcv o.mem o.uniq rfl rfl (Or.inl rfl) (by decide) (by decide) (by decide) rfl rfl rfl rfl rfl rfl
    refine pss_cons ?_ ?_
    · exact ps_row (i := 1) (y := "found") (fs := ["poly"]) rfl (CT.ok 5 "BadPoly" ["poly"] rfl) hr (pa_cons (pv 0) pa_nil) (pa_cons (pv 0) pa_nil) (pk_cons (pv 0) pk_nil) rfl ⟨⟨rfl, rfl, rfl, by decide +kernel, rfl, by decide +kernel, by decide +kernel⟩, by decide +kernel, rfl, ⟨[("poly", _, _)], _, rfl, rfl⟩, fun _ _ _ _ _ _ => rfl⟩ o.tb hcv o.mem o.uniq rfl rfl (Or.inl rfl) (by decide) (by decide) (by decide) rfl rfl rfl rfl rfl rfl
    refine pss_cons ?_ ?_
    · exact ps_row (i := 1) (y := "found") (fs := ["tree"]) rfl (CT.ok 6 "BadTree" ["tree"] rfl) hr (pa_cons (pv 0) pa_nil) (pa_cons (pv 0) pa_nil) (pk_cons (pv 0) pk_nil) rfl ⟨⟨rfl, rfl, rfl, by decide +kernel, rfl, by decide +kernel, by decide +kernel⟩, by decide +kernel, rfl, ⟨[("tree", _, _)], _, rfl, rfl⟩, fun _ _ _ _ _ _ => rfl⟩ o.tb hcv o.mem o.uniq rfl rfl (Or.inl rfl) (by decide) (by decide) (by decide) rfl rfl rfl rfl rfl rfl
    refine pss_cons ?_ ?_
    · exact ps_row (i := 1) (y := "found") (fs := ["path"]) rfl (CT.ok 7 "BadPath" ["path"] rfl) hr (pa_cons (pv 0) pa_nil) (pa_cons (pv 0) pa_nil) (pk_cons (pv 0) pk_nil) rfl ⟨⟨rfl, rfl, rfl, by decide +kernel, rfl, by decide +kernel, by decide +kernel⟩, by decide +kernel, rfl, ⟨[("path", _, _)], _, rfl, rfl⟩, fun _ _ _ _ _ _ => rfl⟩ o.tb hcv o.mem o.uniq rfl rfl (Or.inl rfl) (by decide) (by decide) (by decide) rfl rfl rfl rfl rfl rfl
    refine pss_cons ?_ ?_
    · exact ps_row (i := 1) (y := "found") (fs := ["book"]) rfl (CT.ok 8 "BadBook" ["book"] rfl) hr (pa_cons (pv 0) pa_nil) (pa_cons (pv 0) pa_nil) (pk_cons (pv 0) pk_nil) rfl ⟨⟨rfl, rfl, rfl, by decide +kernel, rfl, by decide +kernel, by decide +kernel⟩, by decide +kernel, rfl, ⟨[("book", _, _)], _, rfl, rfl⟩, fun _ _ _ _ _ _ => rfl⟩ o.tb hcv o.mem o.uniq rfl rfl (Or.inl rfl) (by decide) (by decide) (by decide) rfl rfl rfl rfl rfl rfl
    refine pss_cons ?_ ?_
    · exact ps_row (i := 1) (y := "found") (fs := ["named"]) rfl (CT.ok 9 "NoName" ["named"] rfl) hr (pa_cons (pv 0) pa_nil) (pa_cons (pv 0) pa_nil) (pk_cons (pv 0) pk_nil) rfl ⟨⟨rfl, rfl, rfl, by decide +kernel, rfl, by decide +kernel, by decide +kernel⟩, by decide +kernel, rfl, ⟨[("named", _, _)], _, rfl, rfl⟩, fun _ _ _ _ _ _ => rfl⟩ o.tb hcv o.mem o.uniq rfl rfl (Or.inl rfl) (by decide) (by decide) (by decide) rfl rfl rfl rfl rfl rfl
    refine pss_cons ?_ ?_
    · exact ps_row (i := 1) (y := "found") (fs := ["most"]) rfl (CT.ok 10 "TooGreat" ["most"] rfl) hr (pa_cons (pv 0) pa_nil) (pa_cons (pv 0) pa_nil) (pk_cons (pv 0) pk_nil) rfl ⟨⟨rfl, rfl, rfl, by decide +kernel, rfl, by decide +kernel, by decide +kernel⟩, by decide +kernel, rfl, ⟨[("most", _, _)], _, rfl, rfl⟩, fun _ _ _ _ _ _ => rfl⟩ o.tb hcv o.mem o.uniq rfl rfl (Or.inl rfl) (by decide) (by decide) (by decide) rfl rfl rfl rfl rfl rfl
    exact pss_cons (ps_ret (pv 1)) pss_nil
  refine ⟨_, hp, ?_⟩
  obtain ⟨hl, hT, hq⟩ := h
  obtain ⟨v0, rfl⟩ : ∃ v0, vs = [v0] := by
    match vs, hl with
    | [v0], _ => exact ⟨v0, rfl⟩
  refine ⟨Nat.zero_le _, fun b hb => ?_⟩
  have R0 : RowsI Tb ca 0 [v0] b (upd H b (.lst [])) (upd H b (.lst [])) [] 0 := ⟨fun _ _ _ h _ => h, hT.ext (same_upd hb), upd_same, rfl, fun i r h => by cases h⟩
  have hta : ∀ (H' : Hp) (Q : List V → Hp → Prop), Q [v0] H' → tCons (tVar 0) tNil [some v0, some (.ref b)] H' Q := fun _ _ h => ⟨_, rfl, h⟩
  refine rows_step R0 rfl rfl rfl hta (by decide) rfl (by decide) (by decide) (by decide) rfl fun H1 r1 R1 => ?_
  refine rows_step R1 rfl rfl rfl hta (by decide) rfl (by decide) (by decide) (by decide) rfl fun H2 r2 R2 => ?_
  refine rows_step R2 rfl rfl rfl hta (by decide) rfl (by decide) (by decide) (by decide) rfl fun H3 r3 R3 => ?_
  refine rows_step R3 rfl rfl rfl hta (by decide) rfl (by decide) (by decide) (by decide) rfl fun H4 r4 R4 => ?_
  refine rows_step R4 rfl rfl rfl hta (by decide) rfl (by decide) (by decide) (by decide) rfl fun H5 r5 R5 => ?_
  refine rows_step R5 rfl rfl rfl hta (by decide) rfl (by decide) (by decide) (by decide) rfl fun H6 r6 R6 => ?_
  refine rows_step R6 rfl rfl rfl hta (by decide) rfl (by decide) (by decide) (by decide) rfl fun H7 r7 R7 => ?_
  refine rows_step R7 rfl rfl rfl hta (by decide) rfl (by decide) (by decide) (by decide) rfl fun H8 r8 R8 => ?_
  refine rows_step R8 rfl rfl rfl hta (by decide) rfl (by decide) (by decide) (by decide) rfl fun H9 r9 R9 => ?_
  refine rows_step R9 rfl rfl rfl hta (by decide) rfl (by decide) (by decide) (by decide) rfl fun H10 r10 R10 => ?_
  refine rows_step R10 rfl rfl rfl hta (by decide) rfl (by decide) (by decide) (by decide) rfl fun H11 r11 R11 => ?_
  refine ⟨.ref b, rfl, hq H11 b _ (fun q x h nt => ?_) R11.tb R11.lst hb R11.len (R11.rows.ext (ExtN.of cut_le))⟩
  have nb : q ≠ b := fun z => by rw [z, hb] at h; cases h
  exact R11.gr q x nb (by rw [upd_ne nb]; exact h) nt
abbrev s_law_e_second : Stmt := top 61
theorem scr_law_e_second : FnScope ["x", "found"] ["x"] (defScope s_law_e_second) := ⟨rfl, rfl, rfl, by decide +kernel, rfl, by decide +kernel, by decide +kernel⟩
theorem ok_law_e_second (CT : CTxt P K mg ca cm) (D : FunD K "_law_e_second" "_law_e_second" (defArgs s_law_e_second) (defBody s_law_e_second) (defScope s_law_e_second) [] [] g fdv) (hcode : fdv.code = .ref c) (o : Own1 base mg Tb "_law_e_second.<locals>.<lambda>" c Pt) : FnOkG P w K mg base CX0 (n + 1) g fdv ["x"] (spRows Tb ca 11 11 1) := by
  refine fn_okG D scr_law_e_second (fun vs H Q E h => h.1) (fun cdv A outer s H vs Q E hr hgd hcd h => ?_)
  have hcv := hcd.symm.trans hcode
  have hp : PSs (cxOf CX0 P w K mg base ["x", "found"] "_law_e_second" (defScope s_law_e_second) g cdv A outer s H E) (defBody s_law_e_second) (tSeq (tAsg (tLst tNil) (gName 1)) (tSeq (tRow Tb 1 (ca 11) ["path"] [0] (tCons (tVar 0) tNil)) (tSeq (tRow Tb 1 (ca 12) ["number"] [0] (tCons (tVar 0) tNil)) (tSeq (tRow Tb 1 (ca 13) ["row"] [0] (tCons (tVar 0) tNil)) (tSeq (tRow Tb 1 (ca 14) ["size"] [0] (tCons (tVar 0) tNil)) (tSeq (tRow Tb 1 (ca 15) ["row"] [0] (tCons (tVar 0) tNil)) (tSeq (tRow Tb 1 (ca 16) ["word"] [0] (tCons (tVar 0) tNil)) (tSeq (tRow Tb 1 (ca 17) ["lines"] [0] (tCons (tVar 0) tNil)) (tSeq (tRow Tb 1 (ca 18) ["loop"] [0] (tCons (tVar 0) tNil)) (tSeq (tRow Tb 1 (ca 19) ["chain"] [0] (tCons (tVar 0) tNil)) (tSeq (tRow Tb 1 (ca 20) ["move"] [0] (tCons (tVar 0) tNil)) (tSeq (tRow Tb 1 (ca 21) ["move"] [0] (tCons (tVar 0) tNil)) (tSeq (tRet (tVar 1)) tNext))))))))))))) := by
    refine pss_cons (ps_set (i := 1) scr_law_e_second.nd rfl (Or.inl rfl) (pe_lst pa_nil)) ?_
    refine pss_cons ?_ ?_
    · exact ps_row (i := 1) (y := "found") (fs := ["path"]) rfl (CT.ok 11 "Refused" ["path"] rfl) hr (pa_cons (pv 0) pa_nil) (pa_cons (pv 0) pa_nil) (pk_cons (pv 0) pk_nil) rfl ⟨⟨rfl, rfl, rfl, by decide +kernel, rfl, by decide +kernel, by decide +kernel⟩, by decide +kernel, rfl, ⟨[("path", _, _)], _, rfl, rfl⟩, fun _ _ _ _ _ _ => rfl⟩ o.tb hcv o.mem o.uniq rfl rfl (Or.inl rfl) (by decide) (by decide) (by decide) rfl rfl rfl rfl rfl rfl
    refine pss_cons ?_ ?_
    · exact ps_row (i := 1) (y := "found") (fs := ["number"]) rfl (CT.ok 12 "BadNumber" ["number"] rfl) hr (pa_cons (pv 0) pa_nil) (pa_cons (pv 0) pa_nil) (pk_cons (pv 0) pk_nil) rfl ⟨⟨rfl, rfl, rfl, by decide +kernel, rfl, by decide +kernel, by decide +kernel⟩, by decide +kernel, rfl, ⟨[("number", _, _)], _, rfl, rfl⟩, fun _ _ _ _ _ _ => rfl⟩ o.tb hcv o.mem o.uniq rfl rfl (Or.inl rfl) (by decide) (by decide) (by decide) rfl rfl rfl rfl rfl rfl
    refine pss_cons ?_ ?_
    · exact ps_row (i := 1) (y := "found") (fs := ["row"]) rfl (CT.ok 13 "BadRow" ["row"] rfl) hr (pa_cons (pv 0) pa_nil) (pa_cons (pv 0) pa_nil) (pk_cons (pv 0) pk_nil) rfl ⟨⟨rfl, rfl, rfl, by decide +kernel, rfl, by decide +kernel, by decide +kernel⟩, by decide +kernel, rfl, ⟨[("row", _, _)], _, rfl, rfl⟩, fun _ _ _ _ _ _ => rfl⟩ o.tb hcv o.mem o.uniq rfl rfl (Or.inl rfl) (by decide) (by decide) (by decide) rfl rfl rfl rfl rfl rfl
    refine pss_cons ?_ ?_
    · exact ps_row (i := 1) (y := "found") (fs := ["size"]) rfl (CT.ok 14 "BadSize" ["size"] rfl) hr (pa_cons (pv 0) pa_nil) (pa_cons (pv 0) pa_nil) (pk_cons (pv 0) pk_nil) rfl ⟨⟨rfl, rfl, rfl, by decide +kernel, rfl, by decide +kernel, by decide +kernel⟩, by decide +kernel, rfl, ⟨[("size", _, _)], _, rfl, rfl⟩, fun _ _ _ _ _ _ => rfl⟩ o.tb hcv o.mem o.uniq rfl rfl (Or.inl rfl) (by decide) (by decide) (by decide) rfl rfl rfl rfl rfl rfl
    refine pss_cons ?_ ?_
    · exact ps_row (i := 1) (y := "found") (fs := ["row"]) rfl (CT.ok 15 "TooShort" ["row"] rfl) hr (pa_cons (pv 0) pa_nil) (pa_cons (pv 0) pa_nil) (pk_cons (pv 0) pk_nil) rfl ⟨⟨rfl, rfl, rfl, by decide +kernel, rfl, by decide +kernel, by decide +kernel⟩, by decide +kernel, rfl, ⟨[("row", _, _)], _, rfl, rfl⟩, fun _ _ _ _ _ _ => rfl⟩ o.tb hcv o.mem o.uniq rfl rfl (Or.inl rfl) (by decide) (by decide) (by decide) rfl rfl rfl rfl rfl rfl
    refine pss_cons ?_ ?_
    · exact ps_row (i := 1) (y := "found") (fs := ["word"]) rfl (CT.ok 16 "BadWord" ["word"] rfl) hr (pa_cons (pv 0) pa_nil) (pa_cons (pv 0) pa_nil) (pk_cons (pv 0) pk_nil) rfl ⟨⟨rfl, rfl, rfl, by decide +kernel, rfl, by decide +kernel, by decide +kernel⟩, by decide +kernel, rfl, ⟨[("word", _, _)], _, rfl, rfl⟩, fun _ _ _ _ _ _ => rfl⟩ o.tb hcv o.mem o.uniq rfl rfl (Or.inl rfl) (by decide) (by decide) (by decide) rfl rfl rfl rfl rfl rfl
    refine pss_cons ?_ ?_
    · exact ps_row (i := 1) (y := "found") (fs := ["lines"]) rfl (CT.ok 17 "BadLines" ["lines"] rfl) hr (pa_cons (pv 0) pa_nil) (pa_cons (pv 0) pa_nil) (pk_cons (pv 0) pk_nil) rfl ⟨⟨rfl, rfl, rfl, by decide +kernel, rfl, by decide +kernel, by decide +kernel⟩, by decide +kernel, rfl, ⟨[("lines", _, _)], _, rfl, rfl⟩, fun _ _ _ _ _ _ => rfl⟩ o.tb hcv o.mem o.uniq rfl rfl (Or.inl rfl) (by decide) (by decide) (by decide) rfl rfl rfl rfl rfl rfl
    refine pss_cons ?_ ?_
    · exact ps_row (i := 1) (y := "found") (fs := ["loop"]) rfl (CT.ok 18 "BadLoop" ["loop"] rfl) hr (pa_cons (pv 0) pa_nil) (pa_cons (pv 0) pa_nil) (pk_cons (pv 0) pk_nil) rfl ⟨⟨rfl, rfl, rfl, by decide +kernel, rfl, by decide +kernel, by decide +kernel⟩, by decide +kernel, rfl, ⟨[("loop", _, _)], _, rfl, rfl⟩, fun _ _ _ _ _ _ => rfl⟩ o.tb hcv o.mem o.uniq rfl rfl (Or.inl rfl) (by decide) (by decide) (by decide) rfl rfl rfl rfl rfl rfl
    refine pss_cons ?_ ?_
    · exact ps_row (i := 1) (y := "found") (fs := ["chain"]) rfl (CT.ok 19 "BadChain" ["chain"] rfl) hr (pa_cons (pv 0) pa_nil) (pa_cons (pv 0) pa_nil) (pk_cons (pv 0) pk_nil) rfl ⟨⟨rfl, rfl, rfl, by decide +kernel, rfl, by decide +kernel, by decide +kernel⟩, by decide +kernel, rfl, ⟨[("chain", _, _)], _, rfl, rfl⟩, fun _ _ _ _ _ _ => rfl⟩ o.tb hcv o.mem o.uniq rfl rfl (Or.inl rfl) (by decide) (by decide) (by decide) rfl rfl rfl rfl rfl rfl
    refine pss_cons ?_ ?_
    · exact ps_row (i := 1) (y := "found") (fs := ["move"]) rfl (CT.ok 20 "BadMove" ["move"] rfl) hr (pa_cons (pv 0) pa_nil) (pa_cons (pv 0) pa_nil) (pk_cons (pv 0) pk_nil) rfl ⟨⟨rfl, rfl, rfl, by decide +kernel, rfl, by decide +kernel, by decide +kernel⟩, by decide +kernel, rfl, ⟨[("move", _, _)], _, rfl, rfl⟩, fun _ _ _ _ _ _ => rfl⟩ o.tb hcv o.mem o.uniq rfl rfl (Or.inl rfl) (by decide) (by decide) (by decide) rfl rfl rfl rfl rfl rfl
    refine pss_cons ?_ ?_
    · exact ps_row (i := 1) (y := "found") (fs := ["move"]) rfl (CT.ok 21 "Unfit" ["move"] rfl) hr (pa_cons (pv 0) pa_nil) (pa_cons (pv 0) pa_nil) (pk_cons (pv 0) pk_nil) rfl ⟨⟨rfl, rfl, rfl, by decide +kernel, rfl, by decide +kernel, by decide +kernel⟩, by decide +kernel, rfl, ⟨[("move", _, _)], _, rfl, rfl⟩, fun _ _ _ _ _ _ => rfl⟩ o.tb hcv o.mem o.uniq rfl rfl (Or.inl rfl) (by decide) (by decide) (by decide) rfl rfl rfl rfl rfl rfl
    exact pss_cons (ps_ret (pv 1)) pss_nil
  refine ⟨_, hp, ?_⟩
  obtain ⟨hl, hT, hq⟩ := h
  obtain ⟨v0, rfl⟩ : ∃ v0, vs = [v0] := by
    match vs, hl with
    | [v0], _ => exact ⟨v0, rfl⟩
  refine ⟨Nat.zero_le _, fun b hb => ?_⟩
  have R0 : RowsI Tb ca 11 [v0] b (upd H b (.lst [])) (upd H b (.lst [])) [] 0 := ⟨fun _ _ _ h _ => h, hT.ext (same_upd hb), upd_same, rfl, fun i r h => by cases h⟩
  have hta : ∀ (H' : Hp) (Q : List V → Hp → Prop), Q [v0] H' → tCons (tVar 0) tNil [some v0, some (.ref b)] H' Q := fun _ _ h => ⟨_, rfl, h⟩
  refine rows_step R0 rfl rfl rfl hta (by decide) rfl (by decide) (by decide) (by decide) rfl fun H1 r1 R1 => ?_
  refine rows_step R1 rfl rfl rfl hta (by decide) rfl (by decide) (by decide) (by decide) rfl fun H2 r2 R2 => ?_
  refine rows_step R2 rfl rfl rfl hta (by decide) rfl (by decide) (by decide) (by decide) rfl fun H3 r3 R3 => ?_
  refine rows_step R3 rfl rfl rfl hta (by decide) rfl (by decide) (by decide) (by decide) rfl fun H4 r4 R4 => ?_
  refine rows_step R4 rfl rfl rfl hta (by decide) rfl (by decide) (by decide) (by decide) rfl fun H5 r5 R5 => ?_
  refine rows_step R5 rfl rfl rfl hta (by decide) rfl (by decide) (by decide) (by decide) rfl fun H6 r6 R6 => ?_
  refine rows_step R6 rfl rfl rfl hta (by decide) rfl (by decide) (by decide) (by decide) rfl fun H7 r7 R7 => ?_
  refine rows_step R7 rfl rfl rfl hta (by decide) rfl (by decide) (by decide) (by decide) rfl fun H8 r8 R8 => ?_
  refine rows_step R8 rfl rfl rfl hta (by decide) rfl (by decide) (by decide) (by decide) rfl fun H9 r9 R9 => ?_
  refine rows_step R9 rfl rfl rfl hta (by decide) rfl (by decide) (by decide) (by decide) rfl fun H10 r10 R10 => ?_
  refine rows_step R10 rfl rfl rfl hta (by decide) rfl (by decide) (by decide) (by decide) rfl fun H11 r11 R11 => ?_
  refine ⟨.ref b, rfl, hq H11 b _ (fun q x h nt => ?_) R11.tb R11.lst hb R11.len (R11.rows.ext (ExtN.of cut_le))⟩
  have nb : q ≠ b := fun z => by rw [z, hb] at h; cases h
  exact R11.gr q x nb (by rw [upd_ne nb]; exact h) nt
abbrev s_law_e_third : Stmt := top 62
theorem scr_law_e_third : FnScope ["x", "found"] ["x"] (defScope s_law_e_third) := ⟨rfl, rfl, rfl, by decide +kernel, rfl, by decide +kernel, by decide +kernel⟩
theorem ok_law_e_third (CT : CTxt P K mg ca cm) (D : FunD K "_law_e_third" "_law_e_third" (defArgs s_law_e_third) (defBody s_law_e_third) (defScope s_law_e_third) [] [] g fdv) (hcode : fdv.code = .ref c) (o : Own1 base mg Tb "_law_e_third.<locals>.<lambda>" c Pt) : FnOkG P w K mg base CX0 (n + 1) g fdv ["x"] (spRows Tb ca 22 11 1) := by
  refine fn_okG D scr_law_e_third (fun vs H Q E h => h.1) (fun cdv A outer s H vs Q E hr hgd hcd h => ?_)
  have hcv := hcd.symm.trans hcode
  have hp : PSs (cxOf CX0 P w K mg base ["x", "found"] "_law_e_third" (defScope s_law_e_third) g cdv A outer s H E) (defBody s_law_e_third) (tSeq (tAsg (tLst tNil) (gName 1)) (tSeq (tRow Tb 1 (ca 22) ["name"] [0] (tCons (tVar 0) tNil)) (tSeq (tRow Tb 1 (ca 23) ["name"] [0] (tCons (tVar 0) tNil)) (tSeq (tRow Tb 1 (ca 24) ["name"] [0] (tCons (tVar 0) tNil)) (tSeq (tRow Tb 1 (ca 25) ["step"] [0] (tCons (tVar 0) tNil)) (tSeq (tRow Tb 1 (ca 26) ["steps"] [0] (tCons (tVar 0) tNil)) (tSeq (tRow Tb 1 (ca 27) ["fault"] [0] (tCons (tVar 0) tNil)) (tSeq (tRow Tb 1 (ca 28) ["paper"] [0] (tCons (tVar 0) tNil)) (tSeq (tRow Tb 1 (ca 29) ["journal"] [0] (tCons (tVar 0) tNil)) (tSeq (tRow Tb 1 (ca 30) ["operator"] [0] (tCons (tVar 0) tNil)) (tSeq (tRow Tb 1 (ca 31) ["rule"] [0] (tCons (tVar 0) tNil)) (tSeq (tRow Tb 1 (ca 32) ["number"] [0] (tCons (tVar 0) tNil)) (tSeq (tRet (tVar 1)) tNext))))))))))))) := by
    refine pss_cons (ps_set (i := 1) scr_law_e_third.nd rfl (Or.inl rfl) (pe_lst pa_nil)) ?_
    refine pss_cons ?_ ?_
    · exact ps_row (i := 1) (y := "found") (fs := ["name"]) rfl (CT.ok 22 "BadName" ["name"] rfl) hr (pa_cons (pv 0) pa_nil) (pa_cons (pv 0) pa_nil) (pk_cons (pv 0) pk_nil) rfl ⟨⟨rfl, rfl, rfl, by decide +kernel, rfl, by decide +kernel, by decide +kernel⟩, by decide +kernel, rfl, ⟨[("name", _, _)], _, rfl, rfl⟩, fun _ _ _ _ _ _ => rfl⟩ o.tb hcv o.mem o.uniq rfl rfl (Or.inl rfl) (by decide) (by decide) (by decide) rfl rfl rfl rfl rfl rfl
    refine pss_cons ?_ ?_
    · exact ps_row (i := 1) (y := "found") (fs := ["name"]) rfl (CT.ok 23 "Taken" ["name"] rfl) hr (pa_cons (pv 0) pa_nil) (pa_cons (pv 0) pa_nil) (pk_cons (pv 0) pk_nil) rfl ⟨⟨rfl, rfl, rfl, by decide +kernel, rfl, by decide +kernel, by decide +kernel⟩, by decide +kernel, rfl, ⟨[("name", _, _)], _, rfl, rfl⟩, fun _ _ _ _ _ _ => rfl⟩ o.tb hcv o.mem o.uniq rfl rfl (Or.inl rfl) (by decide) (by decide) (by decide) rfl rfl rfl rfl rfl rfl
    refine pss_cons ?_ ?_
    · exact ps_row (i := 1) (y := "found") (fs := ["name"]) rfl (CT.ok 24 "Crowded" ["name"] rfl) hr (pa_cons (pv 0) pa_nil) (pa_cons (pv 0) pa_nil) (pk_cons (pv 0) pk_nil) rfl ⟨⟨rfl, rfl, rfl, by decide +kernel, rfl, by decide +kernel, by decide +kernel⟩, by decide +kernel, rfl, ⟨[("name", _, _)], _, rfl, rfl⟩, fun _ _ _ _ _ _ => rfl⟩ o.tb hcv o.mem o.uniq rfl rfl (Or.inl rfl) (by decide) (by decide) (by decide) rfl rfl rfl rfl rfl rfl
    refine pss_cons ?_ ?_
    · exact ps_row (i := 1) (y := "found") (fs := ["step"]) rfl (CT.ok 25 "BadStep" ["step"] rfl) hr (pa_cons (pv 0) pa_nil) (pa_cons (pv 0) pa_nil) (pk_cons (pv 0) pk_nil) rfl ⟨⟨rfl, rfl, rfl, by decide +kernel, rfl, by decide +kernel, by decide +kernel⟩, by decide +kernel, rfl, ⟨[("step", _, _)], _, rfl, rfl⟩, fun _ _ _ _ _ _ => rfl⟩ o.tb hcv o.mem o.uniq rfl rfl (Or.inl rfl) (by decide) (by decide) (by decide) rfl rfl rfl rfl rfl rfl
    refine pss_cons ?_ ?_
    · exact ps_row (i := 1) (y := "found") (fs := ["steps"]) rfl (CT.ok 26 "BadSteps" ["steps"] rfl) hr (pa_cons (pv 0) pa_nil) (pa_cons (pv 0) pa_nil) (pk_cons (pv 0) pk_nil) rfl ⟨⟨rfl, rfl, rfl, by decide +kernel, rfl, by decide +kernel, by decide +kernel⟩, by decide +kernel, rfl, ⟨[("steps", _, _)], _, rfl, rfl⟩, fun _ _ _ _ _ _ => rfl⟩ o.tb hcv o.mem o.uniq rfl rfl (Or.inl rfl) (by decide) (by decide) (by decide) rfl rfl rfl rfl rfl rfl
    refine pss_cons ?_ ?_
    · exact ps_row (i := 1) (y := "found") (fs := ["fault"]) rfl (CT.ok 27 "Barred" ["fault"] rfl) hr (pa_cons (pv 0) pa_nil) (pa_cons (pv 0) pa_nil) (pk_cons (pv 0) pk_nil) rfl ⟨⟨rfl, rfl, rfl, by decide +kernel, rfl, by decide +kernel, by decide +kernel⟩, by decide +kernel, rfl, ⟨[("fault", _, _)], _, rfl, rfl⟩, fun _ _ _ _ _ _ => rfl⟩ o.tb hcv o.mem o.uniq rfl rfl (Or.inl rfl) (by decide) (by decide) (by decide) rfl rfl rfl rfl rfl rfl
    refine pss_cons ?_ ?_
    · exact ps_row (i := 1) (y := "found") (fs := ["paper"]) rfl (CT.ok 28 "BadPaper" ["paper"] rfl) hr (pa_cons (pv 0) pa_nil) (pa_cons (pv 0) pa_nil) (pk_cons (pv 0) pk_nil) rfl ⟨⟨rfl, rfl, rfl, by decide +kernel, rfl, by decide +kernel, by decide +kernel⟩, by decide +kernel, rfl, ⟨[("paper", _, _)], _, rfl, rfl⟩, fun _ _ _ _ _ _ => rfl⟩ o.tb hcv o.mem o.uniq rfl rfl (Or.inl rfl) (by decide) (by decide) (by decide) rfl rfl rfl rfl rfl rfl
    refine pss_cons ?_ ?_
    · exact ps_row (i := 1) (y := "found") (fs := ["journal"]) rfl (CT.ok 29 "BadJournal" ["journal"] rfl) hr (pa_cons (pv 0) pa_nil) (pa_cons (pv 0) pa_nil) (pk_cons (pv 0) pk_nil) rfl ⟨⟨rfl, rfl, rfl, by decide +kernel, rfl, by decide +kernel, by decide +kernel⟩, by decide +kernel, rfl, ⟨[("journal", _, _)], _, rfl, rfl⟩, fun _ _ _ _ _ _ => rfl⟩ o.tb hcv o.mem o.uniq rfl rfl (Or.inl rfl) (by decide) (by decide) (by decide) rfl rfl rfl rfl rfl rfl
    refine pss_cons ?_ ?_
    · exact ps_row (i := 1) (y := "found") (fs := ["operator"]) rfl (CT.ok 30 "BadOperator" ["operator"] rfl) hr (pa_cons (pv 0) pa_nil) (pa_cons (pv 0) pa_nil) (pk_cons (pv 0) pk_nil) rfl ⟨⟨rfl, rfl, rfl, by decide +kernel, rfl, by decide +kernel, by decide +kernel⟩, by decide +kernel, rfl, ⟨[("operator", _, _)], _, rfl, rfl⟩, fun _ _ _ _ _ _ => rfl⟩ o.tb hcv o.mem o.uniq rfl rfl (Or.inl rfl) (by decide) (by decide) (by decide) rfl rfl rfl rfl rfl rfl
    refine pss_cons ?_ ?_
    · exact ps_row (i := 1) (y := "found") (fs := ["rule"]) rfl (CT.ok 31 "BadRule" ["rule"] rfl) hr (pa_cons (pv 0) pa_nil) (pa_cons (pv 0) pa_nil) (pk_cons (pv 0) pk_nil) rfl ⟨⟨rfl, rfl, rfl, by decide +kernel, rfl, by decide +kernel, by decide +kernel⟩, by decide +kernel, rfl, ⟨[("rule", _, _)], _, rfl, rfl⟩, fun _ _ _ _ _ _ => rfl⟩ o.tb hcv o.mem o.uniq rfl rfl (Or.inl rfl) (by decide) (by decide) (by decide) rfl rfl rfl rfl rfl rfl
    refine pss_cons ?_ ?_
    · exact ps_row (i := 1) (y := "found") (fs := ["number"]) rfl (CT.ok 32 "Stuck" ["number"] rfl) hr (pa_cons (pv 0) pa_nil) (pa_cons (pv 0) pa_nil) (pk_cons (pv 0) pk_nil) rfl ⟨⟨rfl, rfl, rfl, by decide +kernel, rfl, by decide +kernel, by decide +kernel⟩, by decide +kernel, rfl, ⟨[("number", _, _)], _, rfl, rfl⟩, fun _ _ _ _ _ _ => rfl⟩ o.tb hcv o.mem o.uniq rfl rfl (Or.inl rfl) (by decide) (by decide) (by decide) rfl rfl rfl rfl rfl rfl
    exact pss_cons (ps_ret (pv 1)) pss_nil
  refine ⟨_, hp, ?_⟩
  obtain ⟨hl, hT, hq⟩ := h
  obtain ⟨v0, rfl⟩ : ∃ v0, vs = [v0] := by
    match vs, hl with
    | [v0], _ => exact ⟨v0, rfl⟩
  refine ⟨Nat.zero_le _, fun b hb => ?_⟩
  have R0 : RowsI Tb ca 22 [v0] b (upd H b (.lst [])) (upd H b (.lst [])) [] 0 := ⟨fun _ _ _ h _ => h, hT.ext (same_upd hb), upd_same, rfl, fun i r h => by cases h⟩
  have hta : ∀ (H' : Hp) (Q : List V → Hp → Prop), Q [v0] H' → tCons (tVar 0) tNil [some v0, some (.ref b)] H' Q := fun _ _ h => ⟨_, rfl, h⟩
  refine rows_step R0 rfl rfl rfl hta (by decide) rfl (by decide) (by decide) (by decide) rfl fun H1 r1 R1 => ?_
  refine rows_step R1 rfl rfl rfl hta (by decide) rfl (by decide) (by decide) (by decide) rfl fun H2 r2 R2 => ?_
  refine rows_step R2 rfl rfl rfl hta (by decide) rfl (by decide) (by decide) (by decide) rfl fun H3 r3 R3 => ?_
  refine rows_step R3 rfl rfl rfl hta (by decide) rfl (by decide) (by decide) (by decide) rfl fun H4 r4 R4 => ?_
  refine rows_step R4 rfl rfl rfl hta (by decide) rfl (by decide) (by decide) (by decide) rfl fun H5 r5 R5 => ?_
  refine rows_step R5 rfl rfl rfl hta (by decide) rfl (by decide) (by decide) (by decide) rfl fun H6 r6 R6 => ?_
  refine rows_step R6 rfl rfl rfl hta (by decide) rfl (by decide) (by decide) (by decide) rfl fun H7 r7 R7 => ?_
  refine rows_step R7 rfl rfl rfl hta (by decide) rfl (by decide) (by decide) (by decide) rfl fun H8 r8 R8 => ?_
  refine rows_step R8 rfl rfl rfl hta (by decide) rfl (by decide) (by decide) (by decide) rfl fun H9 r9 R9 => ?_
  refine rows_step R9 rfl rfl rfl hta (by decide) rfl (by decide) (by decide) (by decide) rfl fun H10 r10 R10 => ?_
  refine rows_step R10 rfl rfl rfl hta (by decide) rfl (by decide) (by decide) (by decide) rfl fun H11 r11 R11 => ?_
  refine ⟨.ref b, rfl, hq H11 b _ (fun q x h nt => ?_) R11.tb R11.lst hb R11.len (R11.rows.ext (ExtN.of cut_le))⟩
  have nb : q ≠ b := fun z => by rw [z, hb] at h; cases h
  exact R11.gr q x nb (by rw [upd_ne nb]; exact h) nt
abbrev s_law_e_fourth : Stmt := top 63
theorem scr_law_e_fourth : FnScope ["x", "y", "found"] ["x", "y"] (defScope s_law_e_fourth) := ⟨rfl, rfl, rfl, by decide +kernel, rfl, by decide +kernel, by decide +kernel⟩
theorem ok_law_e_fourth (CT : CTxt P K mg ca cm) (D : FunD K "_law_e_fourth" "_law_e_fourth" (defArgs s_law_e_fourth) (defBody s_law_e_fourth) (defScope s_law_e_fourth) [] [] g fdv) (hcode : fdv.code = .ref c) (o : Own1 base mg Tb "_law_e_fourth.<locals>.<lambda>" c Pt) : FnOkG P w K mg base CX0 (n + 1) g fdv ["x", "y"] (spRows Tb ca 33 4 2) := by
  refine fn_okG D scr_law_e_fourth (fun vs H Q E h => h.1) (fun cdv A outer s H vs Q E hr hgd hcd h => ?_)
  have hcv := hcd.symm.trans hcode
  have hp : PSs (cxOf CX0 P w K mg base ["x", "y", "found"] "_law_e_fourth" (defScope s_law_e_fourth) g cdv A outer s H E) (defBody s_law_e_fourth) (tSeq (tAsg (tLst tNil) (gName 2)) (tSeq (tRow Tb 2 (ca 33) ["word", "path"] [0, 1] (tCons (tVar 0) (tCons (tVar 1) tNil))) (tSeq (tRow Tb 2 (ca 34) ["named", "by"] [0, 1] (tCons (tVar 0) (tCons (tVar 1) tNil))) (tSeq (tRow Tb 2 (ca 35) ["text", "line"] [0, 1] (tCons (tVar 0) (tCons (tVar 1) tNil))) (tSeq (tRow Tb 2 (ca 36) ["text", "place"] [0, 1] (tCons (tVar 0) (tCons (tVar 1) tNil))) (tSeq (tRet (tVar 2)) tNext)))))) := by
    refine pss_cons (ps_set (i := 2) scr_law_e_fourth.nd rfl (Or.inl rfl) (pe_lst pa_nil)) ?_
    refine pss_cons ?_ ?_
    · exact ps_row (i := 2) (y := "found") (fs := ["word", "path"]) rfl (CT.ok 33 "Unright" ["word", "path"] rfl) hr (pa_cons (pv 0) (pa_cons (pv 1) pa_nil)) (pa_cons (pv 0) (pa_cons (pv 1) pa_nil)) (pk_cons (pv 0) (pk_cons (pv 1) pk_nil)) rfl ⟨⟨rfl, rfl, rfl, by decide +kernel, rfl, by decide +kernel, by decide +kernel⟩, by decide +kernel, rfl, ⟨[("word", _, _), ("path", _, _)], _, rfl, rfl⟩, fun _ _ _ _ _ _ => rfl⟩ o.tb hcv o.mem o.uniq rfl rfl (Or.inl rfl) (by decide) (by decide) (by decide) rfl rfl rfl rfl rfl rfl
    refine pss_cons ?_ ?_
    · exact ps_row (i := 2) (y := "found") (fs := ["named", "by"]) rfl (CT.ok 34 "Used" ["named", "by"] rfl) hr (pa_cons (pv 0) (pa_cons (pv 1) pa_nil)) (pa_cons (pv 0) (pa_cons (pv 1) pa_nil)) (pk_cons (pv 0) (pk_cons (pv 1) pk_nil)) rfl ⟨⟨rfl, rfl, rfl, by decide +kernel, rfl, by decide +kernel, by decide +kernel⟩, by decide +kernel, rfl, ⟨[("named", _, _), ("by", _, _)], _, rfl, rfl⟩, fun _ _ _ _ _ _ => rfl⟩ o.tb hcv o.mem o.uniq rfl rfl (Or.inl rfl) (by decide) (by decide) (by decide) rfl rfl rfl rfl rfl rfl
    refine pss_cons ?_ ?_
    · exact ps_row (i := 2) (y := "found") (fs := ["text", "line"]) rfl (CT.ok 35 "BadText" ["text", "line"] rfl) hr (pa_cons (pv 0) (pa_cons (pv 1) pa_nil)) (pa_cons (pv 0) (pa_cons (pv 1) pa_nil)) (pk_cons (pv 0) (pk_cons (pv 1) pk_nil)) rfl ⟨⟨rfl, rfl, rfl, by decide +kernel, rfl, by decide +kernel, by decide +kernel⟩, by decide +kernel, rfl, ⟨[("text", _, _), ("line", _, _)], _, rfl, rfl⟩, fun _ _ _ _ _ _ => rfl⟩ o.tb hcv o.mem o.uniq rfl rfl (Or.inl rfl) (by decide) (by decide) (by decide) rfl rfl rfl rfl rfl rfl
    refine pss_cons ?_ ?_
    · exact ps_row (i := 2) (y := "found") (fs := ["text", "place"]) rfl (CT.ok 36 "Unread" ["text", "place"] rfl) hr (pa_cons (pv 0) (pa_cons (pv 1) pa_nil)) (pa_cons (pv 0) (pa_cons (pv 1) pa_nil)) (pk_cons (pv 0) (pk_cons (pv 1) pk_nil)) rfl ⟨⟨rfl, rfl, rfl, by decide +kernel, rfl, by decide +kernel, by decide +kernel⟩, by decide +kernel, rfl, ⟨[("text", _, _), ("place", _, _)], _, rfl, rfl⟩, fun _ _ _ _ _ _ => rfl⟩ o.tb hcv o.mem o.uniq rfl rfl (Or.inl rfl) (by decide) (by decide) (by decide) rfl rfl rfl rfl rfl rfl
    exact pss_cons (ps_ret (pv 2)) pss_nil
  refine ⟨_, hp, ?_⟩
  obtain ⟨hl, hT, hq⟩ := h
  obtain ⟨v0, v1, rfl⟩ : ∃ v0 v1, vs = [v0, v1] := by
    match vs, hl with
    | [v0, v1], _ => exact ⟨v0, v1, rfl⟩
  refine ⟨Nat.zero_le _, fun b hb => ?_⟩
  have R0 : RowsI Tb ca 33 [v0, v1] b (upd H b (.lst [])) (upd H b (.lst [])) [] 0 := ⟨fun _ _ _ h _ => h, hT.ext (same_upd hb), upd_same, rfl, fun i r h => by cases h⟩
  have hta : ∀ (H' : Hp) (Q : List V → Hp → Prop), Q [v0, v1] H' → tCons (tVar 0) (tCons (tVar 1) tNil) [some v0, some v1, some (.ref b)] H' Q := fun _ _ h => ⟨_, rfl, _, rfl, h⟩
  refine rows_step R0 rfl rfl rfl hta (by decide) rfl (by decide) (by decide) (by decide) rfl fun H1 r1 R1 => ?_
  refine rows_step R1 rfl rfl rfl hta (by decide) rfl (by decide) (by decide) (by decide) rfl fun H2 r2 R2 => ?_
  refine rows_step R2 rfl rfl rfl hta (by decide) rfl (by decide) (by decide) (by decide) rfl fun H3 r3 R3 => ?_
  refine rows_step R3 rfl rfl rfl hta (by decide) rfl (by decide) (by decide) (by decide) rfl fun H4 r4 R4 => ?_
  refine ⟨.ref b, rfl, hq H4 b _ (fun q x h nt => ?_) R4.tb R4.lst hb R4.len (R4.rows.ext (ExtN.of cut_le))⟩
  have nb : q ≠ b := fun z => by rw [z, hb] at h; cases h
  exact R4.gr q x nb (by rw [upd_ne nb]; exact h) nt
end
end LW
set_option Elab.async false
set_option linter.all false
set_option maxRecDepth 100000
set_option maxHeartbeats 0
/-! printed by genW4.py: of which classes an error is -/
namespace LW
open PySem PySem.Spec PyProof.Rows L2 RT RZ Ev LamX LamD SupX
/-- the thing in slot i is an error of the class k -/
def IsE (K : Frag) (ca : Nat → Addr) (i k : Nat) (a : Addr) (σ : L2.St) (H : Hp) : Prop := σ[i]? = some (some (.ref a)) ∧ k < 41 ∧ (∃ al, ExAt H a (ca k) al) ∧ ExcC K (ca k)
def tIsE (K : Frag) (ca : Nat → Addr) (i j : Nat) : TE := fun σ H Q => ∃ a k, IsE K ca i k a σ H ∧ Q (.bl (decide (k = j))) H
def tKs (K : Frag) (ca : Nat → Addr) (i : Nat) : List Nat → TA
  | [] => tNil
  | j :: js => tCons (tIsE K ca i j) (tKs K ca i js)
theorem tKs_ok {K : Frag} {ca : Nat → Addr} {i k : Nat} {a : Addr} {σ : L2.St} {H : Hp} (h : IsE K ca i k a σ H) : ∀ (js : List Nat) (Q : List V → Hp → Prop), Q (js.map fun j => .bl (decide (k = j))) H → tKs K ca i js σ H Q
  | [], Q, q => q
  | j :: js, Q, q => ⟨a, k, h, tKs_ok h js _ q⟩
section
variable {X : Cx} {ca : Nat → Addr} {cm : Addr} {i : Nat} {y cn : Str} {fs : List Str} {p p1 p2 pos : Pos}
theorem pe_isE (CT : CTxt X.prog X.K X.mg ca cm) (j : Nat) (hj : cT[j]? = some (cn, fs)) (j41 : j < 41) (fi : X.mg "isinstance" = none) (hgi : Gl X "isinstance") (hg : Gl X cn) (hd : (cn == ("__debug__" : Str)) = false) (hN : X.N[i]? = some y) (hv : Vis X.env.scope y) (hd2 : (y == ("__debug__" : Str)) = false) (hcd : (y == ("__classdict__" : Str)) = false)
    (he : starEach [.Name y p1, .Name cn p2] X.env = (false, eval (.Name y p1) X.env) :: starEach [.Name cn p2] X.env) (he2 : starEach [.Name cn p2] X.env = (false, eval (.Name cn p2) X.env) :: starEach [] X.env) (hpl : (backTo pos (starEach [.Name cn p2] X.env)).any (·.1) = false) : PE X (.Call (.Name "isinstance" p) [.Name y p1, .Name cn p2] [] pos) (tIsE X.K ca i j) := by
  have h0 := pe_callB (x := "isinstance") (p := p) (pos := pos) call_isX hgi fi PyProof.Rows.boot_isinstance (pa_cons (pe_var (pos := p1) (i := i) hN hv hd2 hcd) (pa_cons (pe_glob (pos := p2) (v := .ref (ca j)) hg (CT.mgC j cn fs hj) rfl hd) pa_nil he2) he) (by decide) (by decide) he hpl
  refine ⟨fun pins s σ H Q I ⟨a, k, ⟨h1, hk, ⟨al, h2⟩, h3⟩, q⟩ => h0.run pins s σ H Q I ?_⟩
  exact ⟨_, h1, _, _, _, _, _, _, rfl, .own _, h2, h3, CT.kit k j hk j41, q⟩
/-- isinstance(e, MillError) -/
theorem pe_isM (CT : CTxt X.prog X.K X.mg ca cm) (fi : X.mg "isinstance" = none) (hgi : Gl X "isinstance") (hg : Gl X "MillError") (hN : X.N[i]? = some y) (hv : Vis X.env.scope y) (hd2 : (y == ("__debug__" : Str)) = false) (hcd : (y == ("__classdict__" : Str)) = false)
    (he : starEach [.Name y p1, .Name "MillError" p2] X.env = (false, eval (.Name y p1) X.env) :: starEach [.Name "MillError" p2] X.env) (he2 : starEach [.Name "MillError" p2] X.env = (false, eval (.Name "MillError" p2) X.env) :: starEach [] X.env) (hpl : (backTo pos (starEach [.Name "MillError" p2] X.env)).any (·.1) = false) : PE X (.Call (.Name "isinstance" p) [.Name y p1, .Name "MillError" p2] [] pos) (fun σ H Q => ∃ a k, IsE X.K ca i k a σ H ∧ Q (.bl true) H) := by
  have h0 := pe_callB (x := "isinstance") (p := p) (pos := pos) call_isX hgi fi PyProof.Rows.boot_isinstance (pa_cons (pe_var (pos := p1) (i := i) hN hv hd2 hcd) (pa_cons (pe_glob (pos := p2) (v := .ref cm) hg CT.mgM rfl (by decide)) pa_nil he2) he) (by decide) (by decide) he hpl
  refine ⟨fun pins s σ H Q I ⟨a, k, ⟨h1, hk, ⟨al, h2⟩, h3⟩, q⟩ => h0.run pins s σ H Q I ?_⟩
  exact ⟨_, h1, _, _, _, _, _, _, rfl, .own _, h2, h3, CT.kitM k hk, q⟩
/-- isinstance(e, ValueError) -/
theorem pe_isV (CT : CTxt X.prog X.K X.mg ca cm) (fi : X.mg "isinstance" = none) (hgi : Gl X "isinstance") (hg : Gl X "ValueError") (hN : X.N[i]? = some y) (hv : Vis X.env.scope y) (hd2 : (y == ("__debug__" : Str)) = false) (hcd : (y == ("__classdict__" : Str)) = false)
    (he : starEach [.Name y p1, .Name "ValueError" p2] X.env = (false, eval (.Name y p1) X.env) :: starEach [.Name "ValueError" p2] X.env) (he2 : starEach [.Name "ValueError" p2] X.env = (false, eval (.Name "ValueError" p2) X.env) :: starEach [] X.env) (hpl : (backTo pos (starEach [.Name "ValueError" p2] X.env)).any (·.1) = false) : PE X (.Call (.Name "isinstance" p) [.Name y p1, .Name "ValueError" p2] [] pos) (fun σ H Q => ∃ a k, IsE X.K ca i k a σ H ∧ Q (.bl true) H) := by
  have h0 := pe_callB (x := "isinstance") (p := p) (pos := pos) call_isX hgi fi PyProof.Rows.boot_isinstance (pa_cons (pe_var (pos := p1) (i := i) hN hv hd2 hcd) (pa_cons (pe_bltn (pos := p2) (v := .ty "ValueError") hg CT.fV (u := .type "ValueError") (by decide +kernel) rfl (by decide) (by decide)) pa_nil he2) he) (by decide) (by decide) he hpl
  refine ⟨fun pins s σ H Q I ⟨a, k, ⟨h1, hk, ⟨al, h2⟩, h3⟩, q⟩ => h0.run pins s σ H Q I ?_⟩
  exact ⟨_, h1, _, _, _, _, _, _, rfl, .ty _, h2, h3, CT.kitV k hk, q⟩
end
/-- the law's kinds of an error of the class k -/
def kindsV (k : Nat) : List V := (List.range 39).map fun j => .bl (decide (k = j))
def spKinds (K : Frag) (ca : Nat → Addr) : Sp := fun vs H Q _ => ∃ a k, vs = [.ref a] ∧ k < 41 ∧ (∃ al, ExAt H a (ca k) al) ∧ ExcC K (ca k) ∧ ∀ p, H p = none → Q (.ref p) (upd H p (.lst (kindsV k)))
abbrev s_law_e_kinds : Stmt := top 64
theorem scr_law_e_kinds : FnScope ["e"] ["e"] (defScope s_law_e_kinds) := ⟨rfl, rfl, rfl, by decide +kernel, rfl, by decide +kernel, by decide +kernel⟩
section
variable {P : Program} {w : World} {K : Frag} {mg : Str → Option Value} {base : Heap} {a : Nat → Addr} {fd : Nat → FuncData} {n : Nat} {g : Addr} {fdv : FuncData} {ca : Nat → Addr} {cm : Addr}
theorem kinds_ok (T : Txt K mg a fd) (CT : CTxt P K mg ca cm) (D : FunD K "_law_e_kinds" "_law_e_kinds" (defArgs s_law_e_kinds) (defBody s_law_e_kinds) (defScope s_law_e_kinds) [] [] g fdv) : FnOk P w K mg base CX0 (n + 1) g fdv ["e"] (spKinds K ca) := by
  refine D.ok scr_law_e_kinds (fun vs H Q E h => ?_) (fun cdv A outer s H vs Q E hr h => ?_)
  · obtain ⟨_, _, rfl, _⟩ := h
    rfl
  have hp : PSs (cxOf CX0 P w K mg base ["e"] "_law_e_kinds" (defScope s_law_e_kinds) g cdv A outer s H E) (defBody s_law_e_kinds) (tSeq (tRet (tLst (tKs K ca 0 (List.range 39)))) tNext) := by
    refine pss_cons (ps_ret (pe_lst ?_)) pss_nil
    show PA _ _ (tKs K ca 0 [0, 1, 2, 3, 4, 5, 6, 7, 8, 9, 10, 11, 12, 13, 14, 15, 16, 17, 18, 19, 20, 21, 22, 23, 24, 25, 26, 27, 28, 29, 30, 31, 32, 33, 34, 35, 36, 37, 38])
    refine pa_cons (pe_isE CT 0 rfl (by decide) T.f_isinstance rfl rfl (by decide) rfl (Or.inl rfl) (by decide) (by decide) rfl rfl rfl) ?_
    refine pa_cons (pe_isE CT 1 rfl (by decide) T.f_isinstance rfl rfl (by decide) rfl (Or.inl rfl) (by decide) (by decide) rfl rfl rfl) ?_
    refine pa_cons (pe_isE CT 2 rfl (by decide) T.f_isinstance rfl rfl (by decide) rfl (Or.inl rfl) (by decide) (by decide) rfl rfl rfl) ?_
    refine pa_cons (pe_isE CT 3 rfl (by decide) T.f_isinstance rfl rfl (by decide) rfl (Or.inl rfl) (by decide) (by decide) rfl rfl rfl) ?_
    refine pa_cons (pe_isE CT 4 rfl (by decide) T.f_isinstance rfl rfl (by decide) rfl (Or.inl rfl) (by decide) (by decide) rfl rfl rfl) ?_
    refine pa_cons (pe_isE CT 5 rfl (by decide) T.f_isinstance rfl rfl (by decide) rfl (Or.inl rfl) (by decide) (by decide) rfl rfl rfl) ?_
    refine pa_cons (pe_isE CT 6 rfl (by decide) T.f_isinstance rfl rfl (by decide) rfl (Or.inl rfl) (by decide) (by decide) rfl rfl rfl) ?_
    refine pa_cons (pe_isE CT 7 rfl (by decide) T.f_isinstance rfl rfl (by decide) rfl (Or.inl rfl) (by decide) (by decide) rfl rfl rfl) ?_
    refine pa_cons (pe_isE CT 8 rfl (by decide) T.f_isinstance rfl rfl (by decide) rfl (Or.inl rfl) (by decide) (by decide) rfl rfl rfl) ?_
    refine pa_cons (pe_isE CT 9 rfl (by decide) T.f_isinstance rfl rfl (by decide) rfl (Or.inl rfl) (by decide) (by decide) rfl rfl rfl) ?_
    refine pa_cons (pe_isE CT 10 rfl (by decide) T.f_isinstance rfl rfl (by decide) rfl (Or.inl rfl) (by decide) (by decide) rfl rfl rfl) ?_
    refine pa_cons (pe_isE CT 11 rfl (by decide) T.f_isinstance rfl rfl (by decide) rfl (Or.inl rfl) (by decide) (by decide) rfl rfl rfl) ?_
    refine pa_cons (pe_isE CT 12 rfl (by decide) T.f_isinstance rfl rfl (by decide) rfl (Or.inl rfl) (by decide) (by decide) rfl rfl rfl) ?_
    refine pa_cons (pe_isE CT 13 rfl (by decide) T.f_isinstance rfl rfl (by decide) rfl (Or.inl rfl) (by decide) (by decide) rfl rfl rfl) ?_
    refine pa_cons (pe_isE CT 14 rfl (by decide) T.f_isinstance rfl rfl (by decide) rfl (Or.inl rfl) (by decide) (by decide) rfl rfl rfl) ?_
    refine pa_cons (pe_isE CT 15 rfl (by decide) T.f_isinstance rfl rfl (by decide) rfl (Or.inl rfl) (by decide) (by decide) rfl rfl rfl) ?_
    refine pa_cons (pe_isE CT 16 rfl (by decide) T.f_isinstance rfl rfl (by decide) rfl (Or.inl rfl) (by decide) (by decide) rfl rfl rfl) ?_
    refine pa_cons (pe_isE CT 17 rfl (by decide) T.f_isinstance rfl rfl (by decide) rfl (Or.inl rfl) (by decide) (by decide) rfl rfl rfl) ?_
    refine pa_cons (pe_isE CT 18 rfl (by decide) T.f_isinstance rfl rfl (by decide) rfl (Or.inl rfl) (by decide) (by decide) rfl rfl rfl) ?_
    refine pa_cons (pe_isE CT 19 rfl (by decide) T.f_isinstance rfl rfl (by decide) rfl (Or.inl rfl) (by decide) (by decide) rfl rfl rfl) ?_
    refine pa_cons (pe_isE CT 20 rfl (by decide) T.f_isinstance rfl rfl (by decide) rfl (Or.inl rfl) (by decide) (by decide) rfl rfl rfl) ?_
    refine pa_cons (pe_isE CT 21 rfl (by decide) T.f_isinstance rfl rfl (by decide) rfl (Or.inl rfl) (by decide) (by decide) rfl rfl rfl) ?_
    refine pa_cons (pe_isE CT 22 rfl (by decide) T.f_isinstance rfl rfl (by decide) rfl (Or.inl rfl) (by decide) (by decide) rfl rfl rfl) ?_
    refine pa_cons (pe_isE CT 23 rfl (by decide) T.f_isinstance rfl rfl (by decide) rfl (Or.inl rfl) (by decide) (by decide) rfl rfl rfl) ?_
    refine pa_cons (pe_isE CT 24 rfl (by decide) T.f_isinstance rfl rfl (by decide) rfl (Or.inl rfl) (by decide) (by decide) rfl rfl rfl) ?_
    refine pa_cons (pe_isE CT 25 rfl (by decide) T.f_isinstance rfl rfl (by decide) rfl (Or.inl rfl) (by decide) (by decide) rfl rfl rfl) ?_
    refine pa_cons (pe_isE CT 26 rfl (by decide) T.f_isinstance rfl rfl (by decide) rfl (Or.inl rfl) (by decide) (by decide) rfl rfl rfl) ?_
    refine pa_cons (pe_isE CT 27 rfl (by decide) T.f_isinstance rfl rfl (by decide) rfl (Or.inl rfl) (by decide) (by decide) rfl rfl rfl) ?_
    refine pa_cons (pe_isE CT 28 rfl (by decide) T.f_isinstance rfl rfl (by decide) rfl (Or.inl rfl) (by decide) (by decide) rfl rfl rfl) ?_
    refine pa_cons (pe_isE CT 29 rfl (by decide) T.f_isinstance rfl rfl (by decide) rfl (Or.inl rfl) (by decide) (by decide) rfl rfl rfl) ?_
    refine pa_cons (pe_isE CT 30 rfl (by decide) T.f_isinstance rfl rfl (by decide) rfl (Or.inl rfl) (by decide) (by decide) rfl rfl rfl) ?_
    refine pa_cons (pe_isE CT 31 rfl (by decide) T.f_isinstance rfl rfl (by decide) rfl (Or.inl rfl) (by decide) (by decide) rfl rfl rfl) ?_
    refine pa_cons (pe_isE CT 32 rfl (by decide) T.f_isinstance rfl rfl (by decide) rfl (Or.inl rfl) (by decide) (by decide) rfl rfl rfl) ?_
    refine pa_cons (pe_isE CT 33 rfl (by decide) T.f_isinstance rfl rfl (by decide) rfl (Or.inl rfl) (by decide) (by decide) rfl rfl rfl) ?_
    refine pa_cons (pe_isE CT 34 rfl (by decide) T.f_isinstance rfl rfl (by decide) rfl (Or.inl rfl) (by decide) (by decide) rfl rfl rfl) ?_
    refine pa_cons (pe_isE CT 35 rfl (by decide) T.f_isinstance rfl rfl (by decide) rfl (Or.inl rfl) (by decide) (by decide) rfl rfl rfl) ?_
    refine pa_cons (pe_isE CT 36 rfl (by decide) T.f_isinstance rfl rfl (by decide) rfl (Or.inl rfl) (by decide) (by decide) rfl rfl rfl) ?_
    refine pa_cons (pe_isE CT 37 rfl (by decide) T.f_isinstance rfl rfl (by decide) rfl (Or.inl rfl) (by decide) (by decide) rfl rfl rfl) ?_
    refine pa_cons (pe_isE CT 38 rfl (by decide) T.f_isinstance rfl rfl (by decide) rfl (Or.inl rfl) (by decide) (by decide) rfl rfl rfl) ?_
    exact pa_nil
  obtain ⟨b, k, rfl, hk, h1, h2, hq⟩ := h
  refine ⟨_, hp, ?_⟩
  refine tKs_ok (a := b) (k := k) ⟨rfl, hk, h1, h2⟩ _ _ ⟨?_, fun p hp => hq p hp⟩
  rw [List.length_map, List.length_range, sizeLine_eq]
  decide
end
end LW
set_option Elab.async false
set_option linter.all false
set_option maxRecDepth 100000
set_option maxHeartbeats 0
/-! W5: what the law's comprehensions tell. -/
namespace LW
open PySem PySem.Spec PyProof.Rows L2 RT RZ Ev LamX LamD SupX
def trues : Int → List Bool → List Int
  | _, [] => []
  | n, b :: bs => if b then n :: trues (n + 1) bs else trues (n + 1) bs
theorem trues_snoc : ∀ (bs : List Bool) (n : Int) (b : Bool), trues n (bs ++ [b]) = trues n bs ++ (if b then [n + bs.length] else [])
  | [], n, b => by cases b <;> simp [trues]
  | c :: bs, n, b => by
    have ih := trues_snoc bs (n + 1) b
    have e : n + 1 + (bs.length : Int) = n + ((bs.length + 1 : Nat) : Int) := by omega
    cases c with
    | true => simp only [trues, List.cons_append, if_true, ih, List.length_cons, e]
    | false => simp only [trues, List.cons_append, ih, List.length_cons, e]; simp
theorem trues_kinds : ∀ k, k < 41 → trues 0 ((List.range 39).map fun j => decide (k = j)) = if k < 39 then [(k : Int)] else [] := by decide +kernel
theorem wipe2 {σ : L2.St} {i j : Nat} {x y : Option V} : wipe (((wipe σ [i, j]).set i x).set j y) [i, j] = wipe σ [i, j] := by
  show (((((σ.set j none).set i none).set i x).set j y).set j none).set i none = (σ.set j none).set i none
  apply List.ext_getElem?
  intro n
  by_cases h1 : i = n
  · subst h1
    simp [List.getElem?_set]
  · by_cases h2 : j = n
    · subst h2
      simp [List.getElem?_set, h1]
    · simp [List.getElem?_set, h1, h2]
theorem wipe_len (σ : L2.St) (vs : List Nat) : (wipe σ vs).length = σ.length := wipe_length σ vs
section
variable {K : Frag} {σ : L2.St} {H1 : Hp} {Q : VK} {E : XK} {a b i j : Nat} {bs : List Bool} {vs : List V}
/-- [k for k, t in enumerate(bs) if t] -/
theorem trues_read (hs : H1 a = some (.lst (bs.map V.bl))) (hi : i < σ.length) (hj : j < σ.length) (hij : i ≠ j) (hl : bs.length < 1000) (hq : ∀ D H', H1 D = none → Same H1 H' → H' D = some (.lst ((trues 0 bs).map V.int)) → Q (.ref D) H') :
    ∀ D, H1 D = none → ∃ W : Nat → Nat → Hp → Prop, (∃ m, W 0 m (upd H1 D (.lst []))) ∧ ∀ n m H, W n m H → ((Ite K a).stop n H ∧ Q (.ref D) H) ∨ ((Ite K a).go n H ∧ ∃ Nx : Hp → Prop, (∀ H', Nx H' → ∃ m', m' < m ∧ W (n + 1) m' H') ∧ ∀ x H', (Ite K a).yld n H x H' →
      gTup K 2 (gCons (gName i) (gCons (gName j) gNil)) x (wipe σ [i, j]) H' fun σ2 H2 => wipe σ2 [i, j] = wipe σ [i, j] ∧ tB (tVar j) σ2 H2 fun b H3 => if b = true then tVar i σ2 H3 fun y H4 => ∃ acc, H4 D = some (.lst acc) ∧ acc.length < sizeLine ∧ Nx (upd H4 D (.lst (acc ++ [y]))) else Nx H3) := by
  intro D hD
  have big : (1000 : Nat) < sizeLine := by rw [sizeLine_eq]; decide
  refine ⟨fun n m H => m + n = bs.length ∧ Same H1 H ∧ H D = some (.lst ((trues 0 (bs.take n)).map V.int)) ∧ (trues 0 (bs.take n)).length ≤ n, ⟨bs.length, rfl, same_upd hD, by rw [upd_same]; rfl, Nat.le_refl _⟩, fun n m H ⟨hm, hS, hDn, hln⟩ => ?_⟩
  by_cases hlt : n < bs.length
  · refine .inr ⟨⟨_, .bl bs[n], SqL.of (hS _ _ hs), by simp [hlt]⟩, fun H' => Same H1 H' ∧ H' D = some (.lst ((trues 0 (bs.take (n + 1))).map V.int)) ∧ (trues 0 (bs.take (n + 1))).length ≤ n + 1, fun H' h => ⟨m - 1, by omega, by omega, h⟩, fun x H' hy => ?_⟩
    obtain ⟨T, xv, rfl, hT, rfl, hx⟩ := hy
    have hx := hx _ (SqL.of (hS _ _ hs))
    rw [List.getElem?_map, List.getElem?_eq_getElem hlt] at hx
    cases hx
    have hS' : Same H1 (upd H T (.tup [.int (n : Nat), .bl bs[n]])) := hS.trans (same_upd hT)
    have hTD : D ≠ T := fun z => by rw [← z, hDn] at hT; cases hT
    have hD' : upd H T (.tup [.int (n : Nat), .bl bs[n]]) D = some (.lst ((trues 0 (bs.take n)).map V.int)) := by rw [upd_ne hTD]; exact hDn
    have ts : trues 0 (bs.take (n + 1)) = trues 0 (bs.take n) ++ (if bs[n] then [(n : Int)] else []) := by
      rw [List.take_succ, List.getElem?_eq_getElem hlt]
      show trues 0 (bs.take n ++ [bs[n]]) = _
      rw [trues_snoc, List.length_take, Nat.min_eq_left (Nat.le_of_lt hlt), Int.zero_add]
    have w1 : (((wipe σ [i, j]).set i (some (V.int (n : Nat)))).set j (some (V.bl bs[n])))[j]? = some (some (.bl bs[n])) := by rw [List.getElem?_set_self (by rw [List.length_set, wipe_len]; exact hj)]
    have w2 : (((wipe σ [i, j]).set i (some (V.int (n : Nat)))).set j (some (V.bl bs[n])))[i]? = some (some (.int (n : Nat))) := by rw [List.getElem?_set_ne (Ne.symm hij), List.getElem?_set_self (by rw [wipe_len]; exact hi)]
    refine ⟨T, _, rfl, SqT.of upd_same, rfl, _, _, rfl, _, _, rfl, rfl, wipe2, .bl bs[n], w1, ?_⟩
    refine ⟨_, rfl, ?_⟩
    cases hb : bs[n] with
    | true =>
      rw [hb] at ts hS' hD' w2
      rw [if_pos rfl]
      refine ⟨_, w2, _, hD', by rw [List.length_map]; omega, fun q o h => ?_, ?_, ?_⟩
      · have : q ≠ D := fun z => by rw [z, hD] at h; cases h
        rw [upd_ne this]
        exact hS' _ _ h
      · rw [upd_same, ts, List.map_append]
        rfl
      · rw [ts, List.length_append]
        show _ + 1 ≤ n + 1
        omega
    | false =>
      rw [hb] at ts hS' hD'
      rw [if_neg Bool.false_ne_true]
      have ts : trues 0 (bs.take (n + 1)) = trues 0 (bs.take n) := by rw [ts]; simp
      rw [ts]
      exact ⟨hS', hD', by omega⟩
  · have e : bs.take n = bs := List.take_of_length_le (by omega)
    rw [e] at hDn
    exact .inl ⟨⟨_, SqL.of (hS _ _ hs), by rw [List.length_map]; omega⟩, hq D H hD hS hDn⟩
theorem rep_bl (n : Nat) : List.replicate n (V.bl true) ++ [V.bl true] = List.replicate (n + 1) (V.bl true) := by rw [List.replicate_succ']
/-- [_law_very(one, other) for one, other in zip(kept, due)], both the same things -/
theorem very_read (h1 : H1 a = some (.lst vs)) (h2 : H1 b = some (.lst vs)) (hi : i < σ.length) (hj : j < σ.length) (hij : i ≠ j) (hl : vs.length < 1000) (ht : ∀ v ∈ vs, Thing K H1 v) (hq : ∀ D H', H1 D = none → Same H1 H' → H' D = some (.lst (List.replicate vs.length (.bl true))) → Q (.ref D) H') :
    ∀ D, H1 D = none → ∃ W : Nat → Nat → Hp → Prop, (∃ m, W 0 m (upd H1 D (.lst []))) ∧ ∀ n m H, W n m H → ((Itz K a b).stop n H ∧ Q (.ref D) H) ∨ ((Itz K a b).go n H ∧ ∃ Nx : Hp → Prop, (∀ H', Nx H' → ∃ m', m' < m ∧ W (n + 1) m' H') ∧ ∀ x H', (Itz K a b).yld n H x H' →
      gTup K 2 (gCons (gName i) (gCons (gName j) gNil)) x (wipe σ [i, j]) H' fun σ2 H2 => wipe σ2 [i, j] = wipe σ [i, j] ∧ tYes σ2 H2 fun b H3 => if b = true then tCall (spVery K) [] E (tCons (tVar i) (tCons (tVar j) tNil)) σ2 H3 fun y H4 => ∃ acc, H4 D = some (.lst acc) ∧ acc.length < sizeLine ∧ Nx (upd H4 D (.lst (acc ++ [y]))) else Nx H3) := by
  intro D hD
  have big : (1000 : Nat) < sizeLine := by rw [sizeLine_eq]; decide
  refine ⟨fun n m H => m + n = vs.length ∧ Same H1 H ∧ H D = some (.lst (List.replicate n (.bl true))), ⟨vs.length, rfl, same_upd hD, by rw [upd_same]; rfl⟩, fun n m H ⟨hm, hS, hDn⟩ => ?_⟩
  by_cases hlt : n < vs.length
  · refine .inr ⟨⟨_, _, vs[n], vs[n], SqL.of (hS _ _ h1), SqL.of (hS _ _ h2), by simp [hlt], by simp [hlt]⟩, fun H' => Same H1 H' ∧ H' D = some (.lst (List.replicate (n + 1) (.bl true))), fun H' h => ⟨m - 1, by omega, by omega, h⟩, fun x H' hy => ?_⟩
    obtain ⟨T, xv, yv, rfl, hT, rfl, hx, hx2⟩ := hy
    have hx := hx _ (SqL.of (hS _ _ h1))
    have hx2 := hx2 _ (SqL.of (hS _ _ h2))
    rw [List.getElem?_eq_getElem hlt] at hx hx2
    cases hx; cases hx2
    have hS' : Same H1 (upd H T (.tup [vs[n], vs[n]])) := hS.trans (same_upd hT)
    have hTD : D ≠ T := fun z => by rw [← z, hDn] at hT; cases hT
    have hD' : upd H T (.tup [vs[n], vs[n]]) D = some (.lst (List.replicate n (.bl true))) := by rw [upd_ne hTD]; exact hDn
    have w1 : (((wipe σ [i, j]).set i (some vs[n])).set j (some vs[n]))[j]? = some (some vs[n]) := by rw [List.getElem?_set_self (by rw [List.length_set, wipe_len]; exact hj)]
    have w2 : (((wipe σ [i, j]).set i (some vs[n])).set j (some vs[n]))[i]? = some (some vs[n]) := by rw [List.getElem?_set_ne (Ne.symm hij), List.getElem?_set_self (by rw [wipe_len]; exact hi)]
    refine ⟨T, _, rfl, SqT.of upd_same, rfl, _, _, rfl, _, _, rfl, rfl, wipe2, ?_⟩
    refine ⟨_, w2, _, w1, vs[n], rfl, (ht _ (List.getElem_mem hlt)).ext (ExtN.of hS'), fun H4 s4 => ?_⟩
    refine ⟨_, s4 _ _ hD', by rw [List.length_replicate]; omega, fun q o h => ?_, ?_⟩
    · have : q ≠ D := fun z => by rw [z, hD] at h; cases h
      rw [upd_ne this]
      exact s4 _ _ (hS' _ _ h)
    · rw [upd_same, rep_bl]
  · have e : n = vs.length := by omega
    refine .inl ⟨⟨_, _, SqL.of (hS _ _ h1), SqL.of (hS _ _ h2), .inl (by omega)⟩, hq D H hD hS (by rw [← e]; exact hDn)⟩
/-- [_law_very(kept, due) for kept, due in found], found pairs of one thing -/
theorem very_read2 {ps : List (Addr × V)} (h1 : H1 a = some (.lst (ps.map fun p => .ref p.1))) (hp : ∀ p ∈ ps, SqT K H1 p.1 [p.2, p.2] ∧ Thing K H1 p.2) (hi : i < σ.length) (hj : j < σ.length) (hij : i ≠ j) (hl : ps.length < 1000) (hq : ∀ D H', H1 D = none → Same H1 H' → H' D = some (.lst (List.replicate ps.length (.bl true))) → Q (.ref D) H') :
    ∀ D, H1 D = none → ∃ W : Nat → Nat → Hp → Prop, (∃ m, W 0 m (upd H1 D (.lst []))) ∧ ∀ n m H, W n m H → ((Itl K a).stop n H ∧ Q (.ref D) H) ∨ ((Itl K a).go n H ∧ ∃ Nx : Hp → Prop, (∀ H', Nx H' → ∃ m', m' < m ∧ W (n + 1) m' H') ∧ ∀ x H', (Itl K a).yld n H x H' →
      gTup K 2 (gCons (gName i) (gCons (gName j) gNil)) x (wipe σ [i, j]) H' fun σ2 H2 => wipe σ2 [i, j] = wipe σ [i, j] ∧ tYes σ2 H2 fun b H3 => if b = true then tCall (spVery K) [] E (tCons (tVar i) (tCons (tVar j) tNil)) σ2 H3 fun y H4 => ∃ acc, H4 D = some (.lst acc) ∧ acc.length < sizeLine ∧ Nx (upd H4 D (.lst (acc ++ [y]))) else Nx H3) := by
  intro D hD
  have big : (1000 : Nat) < sizeLine := by rw [sizeLine_eq]; decide
  refine ⟨fun n m H => m + n = ps.length ∧ Same H1 H ∧ H D = some (.lst (List.replicate n (.bl true))), ⟨ps.length, rfl, same_upd hD, by rw [upd_same]; rfl⟩, fun n m H ⟨hm, hS, hDn⟩ => ?_⟩
  by_cases hlt : n < ps.length
  · refine .inr ⟨⟨_, .ref ps[n].1, SqL.of (hS _ _ h1), by simp [hlt]⟩, fun H' => Same H1 H' ∧ H' D = some (.lst (List.replicate (n + 1) (.bl true))), fun H' h => ⟨m - 1, by omega, by omega, h⟩, fun x H' hy => ?_⟩
    obtain ⟨rfl, hx⟩ := hy
    have hx := hx _ (SqL.of (hS _ _ h1))
    rw [List.getElem?_map, List.getElem?_eq_getElem hlt] at hx
    cases hx
    obtain ⟨t1, t2⟩ := hp _ (List.getElem_mem hlt)
    have w1 : (((wipe σ [i, j]).set i (some ps[n].2)).set j (some ps[n].2))[j]? = some (some ps[n].2) := by rw [List.getElem?_set_self (by rw [List.length_set, wipe_len]; exact hj)]
    have w2 : (((wipe σ [i, j]).set i (some ps[n].2)).set j (some ps[n].2))[i]? = some (some ps[n].2) := by rw [List.getElem?_set_ne (Ne.symm hij), List.getElem?_set_self (by rw [wipe_len]; exact hi)]
    refine ⟨ps[n].1, _, rfl, sqT_same hS t1, rfl, _, _, rfl, _, _, rfl, rfl, wipe2, ?_⟩
    refine ⟨_, w2, _, w1, ps[n].2, rfl, t2.ext (ExtN.of hS), fun H4 s4 => ?_⟩
    refine ⟨_, s4 _ _ hDn, by rw [List.length_replicate]; omega, fun q o h => ?_, ?_⟩
    · have : q ≠ D := fun z => by rw [z, hD] at h; cases h
      rw [upd_ne this]
      exact s4 _ _ (hS _ _ h)
    · rw [upd_same, rep_bl]
  · have e : n = ps.length := by omega
    refine .inl ⟨⟨_, SqL.of (hS _ _ h1), by rw [List.length_map]; omega⟩, hq D H hD hS (by rw [← e]; exact hDn)⟩
end
end LW
set_option Elab.async false
set_option linter.all false
set_option maxRecDepth 100000
set_option maxHeartbeats 0
/-! W6: _law_e_right. -/
namespace LW
open PySem PySem.Spec PyProof.Rows L2 RT RZ Ev LamX LamD SupX
abbrev s_law_e_right : Stmt := top 66
def n_right : List Str := ["row", "at", "placed", "named", "look", "due", "e", "kept", "k", "is_one", "one", "other"]
theorem scr_law_e_right : FnScope n_right ["row", "at"] (defScope s_law_e_right) := ⟨rfl, rfl, rfl, by decide +kernel, rfl, by decide +kernel, by decide +kernel⟩
theorem cT_len : cT.length = 41 := by decide +kernel
theorem cT_get {k : Nat} (h : k < 41) : ∃ n, cT[k]? = some (n, cF k) := by
  have h' : k < cT.length := by rw [cT_len]; exact h
  refine ⟨cT[k].1, ?_⟩
  unfold cF
  rw [List.getElem?_eq_getElem h']
  rfl
def spRight (K : Frag) (ca : Nat → Addr) : Sp := fun vs H Q _ => ∃ (r : Addr) (k : Nat) (us : List V), vs = [.ref r, .int k] ∧ k < 37 ∧ RowAt H r (ca k) (cF k) us ∧ us.length < 100 ∧ (∀ v ∈ us, Thing K H v) ∧ ∀ H', Same H H' → Q (.bl true) H'
section
variable {P : Program} {w : World} {K : Frag} {mg : Str → Option Value} {base : Heap} {a : Nat → Addr} {fd : Nat → FuncData} {n : Nat} {g gk : Addr} {fdv fdk : FuncData} {ca : Nat → Addr} {cm : Addr}
theorem right_ok (T : Txt K mg a fd) (CT : CTxt P K mg ca cm) (gd : Good P w K mg base a fd (n + 6)) (Dk : FunD K "_law_e_kinds" "_law_e_kinds" (defArgs s_law_e_kinds) (defBody s_law_e_kinds) (defScope s_law_e_kinds) [] [] gk fdk) (mk : mg "_law_e_kinds" = some (.ref gk))
    (D : FunD K "_law_e_right" "_law_e_right" (defArgs s_law_e_right) (defBody s_law_e_right) (defScope s_law_e_right) [] [] g fdv) : FnOk P w K mg base CX0 (n + 7) g fdv ["row", "at"] (spRight K ca) := by
  have bk : L2.Binds K fdk ["e"] [] := Dk.bindsN fun _ _ _ _ _ _ us hl => match us, hl with | [_], _ => rfl
  refine D.ok scr_law_e_right (fun vs H Q E h => ?_) (fun cdv A outer s H vs Q E hr h => ?_)
  · obtain ⟨_, _, _, rfl, _⟩ := h
    rfl
  have hu : (A.deeper (envOfC "_law_e_right" (defScope s_law_e_right) s.heap.objs.size g cdv)).units + 64 < cLine := hr.units
  obtain ⟨r, k, us, rfl, hk, hrow, hul, hth, hq⟩ := h
  refine ⟨_, pss_cons (ps_asg (pv 0) (pg_tup (n := 4) rfl (pgs_cons (pg_name (i := 2) scr_law_e_right.nd rfl (Or.inl rfl)) (pgs_cons (pg_name (i := 3) scr_law_e_right.nd rfl (Or.inl rfl)) (pgs_cons (pg_name (i := 4) scr_law_e_right.nd rfl (Or.inl rfl)) (pgs_cons (pg_name (i := 5) scr_law_e_right.nd rfl (Or.inl rfl)) pgs_nil))))))
    (pss_cons (ps_for (passes_of rfl) rfl (pi_list (pe_lst (pa_cons (pv 2) (pa_cons (pv 3) pa_nil)))) (pg_name (i := 6) scr_law_e_right.nd rfl (Or.inl rfl))
      (pss_cons (ps_if (PW.pt (pw_or (pt_not (pt_val (pe_isM (i := 6) (y := "e") CT T.f_isinstance rfl rfl rfl (Or.inl rfl) (by decide) (by decide) rfl rfl rfl))) (pw_or1 (pt_not (pt_val (pe_isV (i := 6) (y := "e") CT T.f_isinstance rfl rfl rfl (Or.inl rfl) (by decide) (by decide) rfl rfl rfl)))))) pss_never pss_nil)
      (pss_cons (ps_if (pt_cmpR (op_neD hu) (pe_lc (g := gTup K 2 (gCons (gName 8) (gCons (gName 9) gNil))) (tt := tB (tVar 9)) (te := tVar 8) (own := [("k", 8), ("is_one", 9)]) rfl scr_law_e_right.nd (pi_enum rfl CT.fE (pa_cons (pe_call (x := "_law_e_kinds") (kinds_ok (n := n + 5) T CT Dk) hr rfl mk Dk.kp bk .nil pass0 (pa_cons (pv 6) pa_nil)) pa_nil))
          (blkOk_by (own := [("k", 8), ("is_one", 9)]) (show blkC n_right (defScope (top 66)) _ [("k", 8), ("is_one", 9)] = true from by decide +kernel))
          (fun _ _ _ _ _ => pg_tup (n := 2) rfl (pgs_cons (pg_name (i := 8) scr_law_e_right.nd rfl (Or.inl rfl)) (pgs_cons (pg_name (i := 9) scr_law_e_right.nd rfl (Or.inl rfl)) pgs_nil))) (fun _ _ _ _ _ => pts_one (pt_val (pv 9))) (fun _ _ _ _ _ => pv 8)) (pe_lst (pa_cons (pv 1) pa_nil)) (nomark _)) pss_never pss_nil)
      (pss_cons (ps_set (i := 7) scr_law_e_right.nd rfl (Or.inl rfl) (pe_look (i := 4) (a := "look") (k := n + 5) hr (pv 6) rfl (Or.inl rfl)))
      (pss_cons (ps_if (PW.pt (pw_or (pt_cmpR op_ne (pe_callB call_len rfl T.f_len PySem.boot_len (pa_cons (pv 7) pa_nil) (by decide) (by decide)) (pe_callB call_len rfl T.f_len PySem.boot_len (pa_cons (pv 5) pa_nil) (by decide) (by decide)) (nomark _))
          (pw_or1 (pt_not (pt_val (pe_callB (cr_all rfl) rfl T.f_all PyProof.Rows.boot_all (pa_cons (pe_lc (g := gTup K 2 (gCons (gName 10) (gCons (gName 11) gNil))) (tt := tYes) (te := tCall (spVery K) [] E0 (tCons (tVar 10) (tCons (tVar 11) tNil))) (own := [("one", 10), ("other", 11)]) rfl scr_law_e_right.nd (pi_zip rfl T.f_zip (pa_cons (pv 7) (pa_cons (pv 5) pa_nil)))
            (blkOk_by (own := [("one", 10), ("other", 11)]) (show blkC n_right (defScope (top 66)) _ [("one", 10), ("other", 11)] = true from by decide +kernel))
            (fun _ _ _ _ _ => pg_tup (n := 2) rfl (pgs_cons (pg_name (i := 10) scr_law_e_right.nd rfl (Or.inl rfl)) (pgs_cons (pg_name (i := 11) scr_law_e_right.nd rfl (Or.inl rfl)) pgs_nil))) (fun _ _ _ _ _ => pts_nil)
            (fun _ _ _ _ _ => pe_call (x := "_law_very") (very_ok gd T) hr rfl T.m__law_very T.d__law_very.kp T.b__law_very .nil pass0 (pa_cons (pv 10) (pa_cons (pv 11) pa_nil)))) pa_nil) (by decide) (by decide))))))) pss_never pss_nil) pss_nil)))))
    (pss_cons (ps_ret pe_bl) pss_nil)), ?_⟩
  obtain ⟨e1, e2, lam, ls, al, hr0, hx1, hx2, hlk, hls, hal⟩ := hrow
  obtain ⟨nm, hn⟩ := cT_get (k := k) (by omega)
  obtain ⟨xf, xc, xn⟩ := CT.xf k nm (cF k) hn
  refine ⟨.ref r, rfl, r, _, rfl, SqT.of hr0, rfl, _, _, rfl, _, _, rfl, _, _, rfl, _, _, rfl, rfl, ?_⟩
  refine ⟨.ref e1, rfl, .ref e2, rfl, by rw [sizeLine_eq]; exact (by decide : 2 ≤ 16777216), fun p hp => ⟨p, rfl, ⟨_, SqL.of upd_same⟩, ?_⟩⟩
  refine ⟨fun i m σ' H' => m + i = 2 ∧ Same (upd H p (.lst [.ref e1, .ref e2])) H' ∧ σ'[1]? = some (some (.int k)) ∧ σ'[4]? = some (some (.ref lam)) ∧ σ'[5]? = some (some (.ref ls)) ∧ σ'.length = 12, ⟨2, rfl, .refl _, rfl, rfl, rfl, rfl⟩, fun i m σ' H' ⟨hm, hS, h1, h4, h5, hl⟩ => ?_⟩
  have sH : Same H H' := (same_upd hp).trans hS
  by_cases hlt : i < 2
  · obtain ⟨ei, hei, hxi⟩ : ∃ ei, [V.ref e1, .ref e2][i]? = some (.ref ei) ∧ ExAt H ei (ca k) al := by
      match i, hlt with
      | 0, _ => exact ⟨e1, rfl, hx1⟩
      | 1, _ => exact ⟨e2, rfl, hx2⟩
    refine .inr ⟨⟨_, _, SqL.of (hS _ _ upd_same), hei⟩, fun σ2 H2 => Same (upd H p (.lst [.ref e1, .ref e2])) H2 ∧ σ2[1]? = some (some (.int k)) ∧ σ2[4]? = some (some (.ref lam)) ∧ σ2[5]? = some (some (.ref ls)) ∧ σ2.length = 12, fun σ2 H2 h => ⟨m - 1, by omega, by omega, h⟩, fun x H2 hy => ?_⟩
    obtain ⟨eH, hx⟩ := hy
    have eH : H2 = H' := eH
    subst eH
    have hx := hx _ (SqL.of (hS _ _ upd_same))
    rw [hei] at hx
    cases hx
    have g6 : (σ'.set 6 (some (V.ref ei)))[6]? = some (some (.ref ei)) := List.getElem?_set_self (by omega)
    have gn : ∀ j, j ≠ 6 → (σ'.set 6 (some (V.ref ei)))[j]? = σ'[j]? := fun j hj => List.getElem?_set_ne (Ne.symm hj)
    have gl : (σ'.set 6 (some (V.ref ei))).length = 12 := by rw [List.length_set]; exact hl
    have hxi' := hxi.ext (ExtN.of sH)
    have hI : IsE K ca 6 k ei (σ'.set 6 (some (V.ref ei))) H2 := ⟨g6, by omega, ⟨al, hxi'⟩, xc⟩
    refine ⟨ei, k, hI, true, rfl, ifF ⟨ei, k, hI, true, rfl, ifF ?_⟩⟩
    -- its kinds
    refine ⟨.ref ei, g6, ei, k, rfl, by omega, ⟨al, hxi'⟩, xc, fun q hq' => ⟨q, _, rfl, SqL.of upd_same, ?_⟩⟩
    have hkb : upd H2 q (.lst (kindsV k)) q = some (.lst (((List.range 39).map fun j => decide (k = j)).map V.bl)) := by
      rw [upd_same]
      simp [kindsV, List.map_map, Function.comp_def]
    intro D hD
    obtain ⟨W, w0, hW⟩ := trues_read (K := K) (Q := fun v H' => ∃ D', v = .ref D' ∧ Same (upd H2 q (.lst (kindsV k))) H' ∧ H' D' = some (.lst ((trues 0 ((List.range 39).map fun j => decide (k = j))).map V.int))) (σ := σ'.set 6 (some (V.ref ei))) (i := 8) (j := 9) (a := q) (bs := (List.range 39).map fun j => decide (k = j)) hkb (by omega) (by omega) (by decide) (by simp) (fun D H3 _ s l => ⟨D, rfl, s, l⟩) D hD
    refine ⟨W, w0, fun n' m' H3 w => (hW n' m' H3 w).imp (fun ⟨st, D', eD, s3, hDl⟩ => ⟨st, ?_⟩) fun z => z⟩
    cases eD
    rw [trues_kinds k (by omega), if_pos (by omega)] at hDl
    have s3' : Same H2 H3 := (same_upd hq').trans s3
    refine ⟨.int k, (gn 1 (by decide)).trans h1, by rw [sizeLine_eq]; exact (by decide : 1 ≤ 16777216), fun q2 hq2 => ?_⟩
    have s4 : Same H3 (upd H3 q2 (.lst [.int k])) := same_upd hq2
    refine ⟨.list [.int k], .list [.int k], .lst (SqL.of (s4 _ _ hDl)) (.cons (.int _) .nil), .lst (SqL.of upd_same) (.cons (.int _) .nil), rfl, rfl, false, by simp [PyData.eqv, PyData.eqvAll], ifF ?_⟩
    generalize upd H3 q2 (.lst [.int k]) = H4 at s4 ⊢
    have s24 : Same H H4 := (sH.trans s3').trans s4
    -- what it keeps
    refine ⟨lam, cF k, (gn 4 (by decide)).trans h4, hlk.ext (ExtN.of s24), .ref ei, g6, hlk.ext (ExtN.of s24), ei, ca k, al, us, rfl, hxi.ext (ExtN.of s24), xf, xn, hal, by rw [sizeLine_eq]; omega, fun q3 hq3 => ?_⟩
    have s5 : Same H4 (upd H4 q3 (.lst us)) := same_upd hq3
    have k3 : upd H4 q3 (.lst us) q3 = some (.lst us) := upd_same
    generalize upd H4 q3 (.lst us) = H5 at s5 k3 ⊢
    have s25 : Same H H5 := s24.trans s5
    have m7 : ((σ'.set 6 (some (V.ref ei))).set 7 (some (V.ref q3)))[7]? = some (some (.ref q3)) := List.getElem?_set_self (by omega)
    have mn : ∀ j, j ≠ 7 → ((σ'.set 6 (some (V.ref ei))).set 7 (some (V.ref q3)))[j]? = (σ'.set 6 (some (V.ref ei)))[j]? := fun j hj => List.getElem?_set_ne (Ne.symm hj)
    have ml : ((σ'.set 6 (some (V.ref ei))).set 7 (some (V.ref q3))).length = 12 := by rw [List.length_set]; exact gl
    have m5 : ((σ'.set 6 (some (V.ref ei))).set 7 (some (V.ref q3)))[5]? = some (some (.ref ls)) := ((mn 5 (by decide)).trans (gn 5 (by decide))).trans h5
    have l1 : LenV K (.ref q3) H5 us.length := .inl ⟨_, SqL.of k3, rfl⟩
    have l2 : LenV K (.ref ls) H5 us.length := .inl ⟨_, SqL.of (s25 _ _ hls), rfl⟩
    refine ⟨.ref q3, m7, .ref q3, _, rfl, l1, .ref ls, m5, .ref ls, _, rfl, l2, rfl, false, by simp, ifF ?_⟩
    refine ⟨.ref q3, m7, .ref ls, m5, q3, ls, us, us, rfl, SqL.of k3, SqL.of (s25 _ _ hls), ?_⟩
    intro D2 hD2
    obtain ⟨W2, w20, hW2⟩ := very_read (K := K) (E := E0) (Q := fun v H' => ∃ D', v = .ref D' ∧ Same H5 H' ∧ H' D' = some (.lst (List.replicate us.length (.bl true)))) (σ := (σ'.set 6 (some (V.ref ei))).set 7 (some (V.ref q3))) (i := 10) (j := 11) (vs := us) k3 (s25 _ _ hls) (by omega) (by omega) (by decide) (by omega) (fun v hv => (hth v hv).ext (ExtN.of s25)) (fun D H3 _ s l => ⟨D, rfl, s, l⟩) D2 hD2
    refine ⟨W2, w20, fun n' m' H6 w => (hW2 n' m' H6 w).imp (fun ⟨st, D', eD, s6, hD2l⟩ => ⟨st, ?_⟩) fun z => z⟩
    cases eD
    refine ⟨D2, List.replicate us.length true, rfl, SqL.of (by rw [hD2l]; simp), true, by simp, ifF ?_⟩
    refine ⟨?_, ?_, ?_, ?_, ml⟩
    · exact hS.trans (s3'.trans (s4.trans (s5.trans s6)))
    · exact ((mn 1 (by decide)).trans (gn 1 (by decide))).trans h1
    · exact ((mn 4 (by decide)).trans (gn 4 (by decide))).trans h4
    · exact m5
  · exact .inl ⟨⟨_, SqL.of (hS _ _ upd_same), by simp; omega⟩, hq H' sH⟩
end
end LW
set_option Elab.async false
set_option linter.all false
set_option maxRecDepth 100000
set_option maxHeartbeats 0
/-! W7: _law_e_breaks. -/
namespace LW
open PySem PySem.Spec PyProof.Rows L2 RT RZ Ev LamX LamD SupX
abbrev s_law_e_breaks : Stmt := top 67
def n_breaks : List Str := ["x", "y", "one", "other", "found", "last", "more", "thing", "kept", "due"]
theorem scr_law_e_breaks : FnScope n_breaks ["x", "y"] (defScope s_law_e_breaks) := ⟨rfl, rfl, rfl, by decide +kernel, rfl, by decide +kernel, by decide +kernel⟩
/-- the field f of what slot i holds is v, and so is slot j -/
def PairOk (K : Frag) (σ : L2.St) (H : Hp) (v : V) (s : Nat × Str × Nat) : Prop := ∃ a C al, σ[s.1]? = some (some (.ref a)) ∧ XfC K C ∧ PySem.W.findIn K (.ref C) s.2.1 = some none ∧ ExAt H a C al ∧ al.lookup s.2.1 = some v ∧ σ[s.2.2]? = some (some v)
def tPs (K : Frag) : List (Nat × Str × Nat) → TA
  | [] => tNil
  | s :: r => tCons (tTup (tCons (tExf K s.2.1 (tVar s.1)) (tCons (tVar s.2.2) tNil))) (tPs K r)
def PsAt (K : Frag) (H : Hp) (ps : List (Addr × V)) : Prop := ∀ p ∈ ps, SqT K H p.1 [p.2, p.2] ∧ Thing K H p.2
theorem PsAt.ext {K : Frag} {H H' : Hp} {ps : List (Addr × V)} (h : PsAt K H ps) (s : Same H H') : PsAt K H' ps := fun p hp => ⟨sqT_same s (h p hp).1, (h p hp).2.ext (ExtN.of s)⟩
theorem tPs_ok {K : Frag} {σ : L2.St} : ∀ (L : List (Nat × Str × Nat)) {H : Hp} {Q : List V → Hp → Prop}, (∀ s ∈ L, ∃ v, PairOk K σ H v s ∧ Thing K H v) → (∀ ps H', Same H H' → ps.length = L.length → PsAt K H' ps → Q (ps.map fun p => .ref p.1) H') → tPs K L σ H Q
  | [], H, Q, _, q => q [] H (.refl _) rfl fun p hp => by cases hp
  | s :: L, H, Q, h, q => by
    obtain ⟨v, ⟨a, C, al, h1, h2, h3, h4, h5, h6⟩, hv⟩ := h s List.mem_cons_self
    refine ⟨.ref a, h1, a, C, al, v, rfl, h2, h3, h4, h5, v, h6, by rw [sizeLine_eq]; exact (by decide : 2 ≤ 16777216), fun p hp => ?_⟩
    have s1 : Same H (upd H p (.tup [v, v])) := same_upd hp
    refine tPs_ok L (fun t ht => ?_) fun ps H' s2 hl hps => ?_
    · obtain ⟨v', ⟨a', C', al', g1, g2, g3, g4, g5, g6⟩, hv'⟩ := h t (List.mem_cons_of_mem _ ht)
      exact ⟨v', ⟨a', C', al', g1, g2, g3, g4.ext (ExtN.of s1), g5, g6⟩, hv'.ext (ExtN.of s1)⟩
    · refine q ((p, v) :: ps) H' (s1.trans s2) (by rw [List.length_cons, hl, List.length_cons]) fun r hr => ?_
      rcases List.mem_cons.mp hr with rfl | hr
      · exact ⟨SqT.of (s2 _ _ upd_same), hv.ext (ExtN.of (s1.trans s2))⟩
      · exact hps r hr
/-- what a new exception leaves -/
theorem new_ex {C : Addr} {fs : List Str} {vs : List V} {H : Hp} {e d : Addr} (he : H e = none) (hd : H d = none) (hn : d ≠ e) : Same H (upd (upd H d (exd d (fs.zip vs).reverse)) e (exo e C (some d))) ∧ ExAt (upd (upd H d (exd d (fs.zip vs).reverse)) e (exo e C (some d))) e C (fs.zip vs).reverse := by
  have h1 : upd H d (exd d (fs.zip vs).reverse) e = none := by rw [upd_ne hn.symm]; exact he
  refine ⟨(same_upd hd).trans (same_upd h1), some d, upd_same, ?_⟩
  show upd _ e _ d = _
  rw [upd_ne hn, upd_same]
def spBreaks (K : Frag) : Sp := fun vs H Q _ => ∃ x y, vs = [x, y] ∧ Thing K H x ∧ Thing K H y ∧ ∀ H', Same H H' → Q (.bl true) H'
theorem kinds39 : ((List.range 39).map fun j => decide (39 = j)).any id = false := by decide +kernel
theorem kinds40 : ((List.range 39).map fun j => decide (40 = j)).any id = false := by decide +kernel
section
variable {P : Program} {w : World} {K : Frag} {mg : Str → Option Value} {base : Heap} {a : Nat → Addr} {fd : Nat → FuncData} {n : Nat} {g gk : Addr} {fdv fdk : FuncData} {ca : Nat → Addr} {cm : Addr}
theorem breaks_ok (T : Txt K mg a fd) (CT : CTxt P K mg ca cm) (gd : Good P w K mg base a fd (n + 6)) (Dk : FunD K "_law_e_kinds" "_law_e_kinds" (defArgs s_law_e_kinds) (defBody s_law_e_kinds) (defScope s_law_e_kinds) [] [] gk fdk) (mk : mg "_law_e_kinds" = some (.ref gk))
    (D : FunD K "_law_e_breaks" "_law_e_breaks" (defArgs s_law_e_breaks) (defBody s_law_e_breaks) (defScope s_law_e_breaks) [] [] g fdv) : FnOk P w K mg base CX0 (n + 7) g fdv ["x", "y"] (spBreaks K) := by
  have bk : L2.Binds K fdk ["e"] [] := Dk.bindsN fun _ _ _ _ _ _ us hl => match us, hl with | [_], _ => rfl
  have C39 := CT.ok 39 "Breaks" ["name", "word", "path"] rfl
  have C40 := CT.ok 40 "Unguarded" ["word", "index", "path"] rfl
  refine D.ok scr_law_e_breaks (fun vs H Q E h => ?_) (fun cdv A outer s H vs Q E hr h => ?_)
  · obtain ⟨_, _, rfl, _⟩ := h
    rfl
  have hu : (A.deeper (envOfC "_law_e_breaks" (defScope s_law_e_breaks) s.heap.objs.size g cdv)).units + 64 < cLine := hr.units
  obtain ⟨x, y, rfl, hx, hy, hq⟩ := h
  refine ⟨_, pss_cons (ps_par (i := 2) (j := 3) rfl scr_law_e_breaks.nd rfl rfl (by decide) rfl rfl
      (pa_cons (pe_exN C39 hr (pa_cons (pv 0) (pa_cons (pv 1) (pa_cons (pv 0) pa_nil))) rfl (by decide) rfl rfl) (pa_cons (pe_exK CT.okB hr rfl (pk_cons (pv 0) (pk_cons (pv 0) (pk_cons (pv 1) pk_nil))) rfl rfl (by decide) rfl) pa_nil)) rfl)
    (pss_cons (ps_set (i := 4) scr_law_e_breaks.nd rfl (Or.inl rfl) (pe_lst (t := tPs K [(2, "name", 0), (2, "word", 1), (2, "path", 0), (3, "name", 1), (3, "word", 0), (3, "path", 0)]) (pa_cons (pe_tup (pa_cons (pe_exf (pv 2)) (pa_cons (pv 0) pa_nil))) (pa_cons (pe_tup (pa_cons (pe_exf (pv 2)) (pa_cons (pv 1) pa_nil))) (pa_cons (pe_tup (pa_cons (pe_exf (pv 2)) (pa_cons (pv 0) pa_nil)))
      (pa_cons (pe_tup (pa_cons (pe_exf (pv 3)) (pa_cons (pv 1) pa_nil))) (pa_cons (pe_tup (pa_cons (pe_exf (pv 3)) (pa_cons (pv 0) pa_nil))) (pa_cons (pe_tup (pa_cons (pe_exf (pv 3)) (pa_cons (pv 0) pa_nil))) pa_nil))))))))
    (pss_cons (ps_par (i := 5) (j := 6) rfl scr_law_e_breaks.nd rfl rfl (by decide) rfl rfl
      (pa_cons (pe_exN C40 hr (pa_cons (pv 1) (pa_cons (pv 0) (pa_cons (pv 0) pa_nil))) rfl (by decide) rfl rfl) (pa_cons (pe_exK CT.okU hr rfl (pk_cons (pv 1) (pk_cons (pv 0) (pk_cons (pv 0) pk_nil))) rfl rfl (by decide) rfl) pa_nil)) rfl)
    (pss_cons (ps_set (i := 4) scr_law_e_breaks.nd rfl (Or.inl rfl) (pe_op op_cat (pv 4) (pe_lst (t := tPs K [(5, "word", 1), (5, "index", 0), (5, "path", 0), (6, "word", 0), (6, "index", 0), (6, "path", 1)]) (pa_cons (pe_tup (pa_cons (pe_exf (pv 5)) (pa_cons (pv 1) pa_nil))) (pa_cons (pe_tup (pa_cons (pe_exf (pv 5)) (pa_cons (pv 0) pa_nil))) (pa_cons (pe_tup (pa_cons (pe_exf (pv 5)) (pa_cons (pv 0) pa_nil)))
      (pa_cons (pe_tup (pa_cons (pe_exf (pv 6)) (pa_cons (pv 0) pa_nil))) (pa_cons (pe_tup (pa_cons (pe_exf (pv 6)) (pa_cons (pv 0) pa_nil))) (pa_cons (pe_tup (pa_cons (pe_exf (pv 6)) (pa_cons (pv 1) pa_nil))) pa_nil)))))))))
    (pss_cons (ps_for (passes_of rfl) rfl (pi_list (pe_lst (pa_cons (pv 2) (pa_cons (pv 5) pa_nil)))) (pg_name (i := 7) scr_law_e_breaks.nd rfl (Or.inl rfl))
      (pss_cons (ps_if (PW.pt (pw_or (pt_not (pt_val (pe_isM (i := 7) (y := "thing") CT T.f_isinstance rfl rfl rfl (Or.inl rfl) (by decide) (by decide) rfl rfl rfl))) (pw_or (pt_not (pt_val (pe_isV (i := 7) (y := "thing") CT T.f_isinstance rfl rfl rfl (Or.inl rfl) (by decide) (by decide) rfl rfl rfl)))
        (pw_or1 (pt_val (pe_callB (cr_any rfl) rfl CT.fA PyProof.Rows.boot_any (pa_cons (pe_call (x := "_law_e_kinds") (kinds_ok (n := n + 5) T CT Dk) hr rfl mk Dk.kp bk .nil pass0 (pa_cons (pv 7) pa_nil)) pa_nil) (by decide) (by decide))))))) pss_never pss_nil) pss_nil))
    (pss_cons (ps_ret (pe_and (pe_callB (cr_all rfl) rfl T.f_all PyProof.Rows.boot_all (pa_cons (pe_lc (g := gTup K 2 (gCons (gName 8) (gCons (gName 9) gNil))) (tt := tYes) (te := tCall (spVery K) [] E0 (tCons (tVar 8) (tCons (tVar 9) tNil))) (own := [("kept", 8), ("due", 9)]) rfl scr_law_e_breaks.nd (pi_list (pv 4))
            (blkOk_by (own := [("kept", 8), ("due", 9)]) (show blkC n_breaks (defScope (top 67)) _ [("kept", 8), ("due", 9)] = true from by decide +kernel))
            (fun _ _ _ _ _ => pg_tup (n := 2) rfl (pgs_cons (pg_name (i := 8) scr_law_e_breaks.nd rfl (Or.inl rfl)) (pgs_cons (pg_name (i := 9) scr_law_e_breaks.nd rfl (Or.inl rfl)) pgs_nil))) (fun _ _ _ _ _ => pts_nil)
            (fun _ _ _ _ _ => pe_call (x := "_law_very") (very_ok gd T) hr rfl T.m__law_very T.d__law_very.kp T.b__law_very .nil pass0 (pa_cons (pv 8) (pa_cons (pv 9) pa_nil)))) pa_nil) (by decide) (by decide))
        (pe_and (pe_not (pe_isE CT 40 (i := 2) rfl (by decide) T.f_isinstance rfl rfl (by decide) rfl (Or.inl rfl) (by decide) (by decide) rfl rfl rfl)) (pe_one (pe_not (pe_isE CT 39 (i := 5) rfl (by decide) T.f_isinstance rfl rfl (by decide) rfl (Or.inl rfl) (by decide) (by decide) rfl rfl rfl)))))) pss_nil))))), ?_⟩
  obtain ⟨xf39, xc39, xn39⟩ := CT.xf 39 "Breaks" ["name", "word", "path"] rfl
  obtain ⟨xf40, xc40, xn40⟩ := CT.xf 40 "Unguarded" ["word", "index", "path"] rfl
  have k0 : ∀ {P : Prop}, P → P := fun h => h
  -- one, other
  refine ⟨x, rfl, y, rfl, x, rfl, rfl, by decide, fun e1 d1 n1 m1 o1 => ?_⟩
  obtain ⟨s1, x1⟩ := new_ex (C := ca 39) (fs := ["name", "word", "path"]) (vs := [x, y, x]) n1 m1 o1
  generalize hH1 : upd (upd H d1 (exd d1 (List.zip (["name", "word", "path"] : List Str) [x, y, x]).reverse)) e1 (exo e1 (ca 39) (some d1)) = H1 at s1 x1 ⊢
  refine ⟨x, rfl, x, rfl, y, rfl, rfl, rfl, by decide, fun e2 d2 n2 m2 o2 => ?_⟩
  obtain ⟨s2, x2⟩ := new_ex (C := ca 39) (fs := ["name", "word", "path"]) (vs := permV [2, 1, 0] [x, x, y]) n2 m2 o2
  generalize hH2 : upd (upd H1 d2 (exd d2 (List.zip (["name", "word", "path"] : List Str) (permV [2, 1, 0] [x, x, y])).reverse)) e2 (exo e2 (ca 39) (some d2)) = H2 at s2 x2 ⊢
  refine ⟨.ref e1, .ref e2, rfl, ?_⟩
  have s12 : Same H H2 := s1.trans s2
  have x1 := x1.ext (ExtN.of s2)
  have hx2 := hx.ext (ExtN.of s12)
  have hy2 := hy.ext (ExtN.of s12)
  -- what they keep
  refine tPs_ok _ (fun s hs => ?_) fun ps H3 s3 hl3 hps => ?_
  · simp only [List.mem_cons, List.not_mem_nil, or_false] at hs
    rcases hs with rfl | rfl | rfl | rfl | rfl | rfl
    · exact ⟨x, ⟨e1, ca 39, _, rfl, xf39, xn39 _ (by decide), x1, rfl, rfl⟩, hx2⟩
    · exact ⟨y, ⟨e1, ca 39, _, rfl, xf39, xn39 _ (by decide), x1, rfl, rfl⟩, hy2⟩
    · exact ⟨x, ⟨e1, ca 39, _, rfl, xf39, xn39 _ (by decide), x1, rfl, rfl⟩, hx2⟩
    · exact ⟨y, ⟨e2, ca 39, _, rfl, xf39, xn39 _ (by decide), x2, rfl, rfl⟩, hy2⟩
    · exact ⟨x, ⟨e2, ca 39, _, rfl, xf39, xn39 _ (by decide), x2, rfl, rfl⟩, hx2⟩
    · exact ⟨x, ⟨e2, ca 39, _, rfl, xf39, xn39 _ (by decide), x2, rfl, rfl⟩, hx2⟩
  refine ⟨by rw [List.length_map, hl3, sizeLine_eq]; decide, fun q hq3 => ?_⟩
  have s4 : Same H3 (upd H3 q (.lst (ps.map fun p => .ref p.1))) := same_upd hq3
  have kq : upd H3 q (.lst (ps.map fun p => .ref p.1)) q = some (.lst (ps.map fun p => .ref p.1)) := upd_same
  generalize upd H3 q (.lst (ps.map fun p => .ref p.1)) = H4 at s4 kq ⊢
  have s24 : Same H2 H4 := s3.trans s4
  -- last, more
  refine ⟨y, rfl, x, rfl, x, rfl, rfl, by decide, fun e3 d3 n3 m3 o3 => ?_⟩
  obtain ⟨s5, x3⟩ := new_ex (C := ca 40) (fs := ["word", "index", "path"]) (vs := [y, x, x]) n3 m3 o3
  generalize hH5 : upd (upd H4 d3 (exd d3 (List.zip (["word", "index", "path"] : List Str) [y, x, x]).reverse)) e3 (exo e3 (ca 40) (some d3)) = H5 at s5 x3 ⊢
  refine ⟨y, rfl, x, rfl, x, rfl, rfl, rfl, by decide, fun e4 d4 n4 m4 o4 => ?_⟩
  obtain ⟨s6, x4⟩ := new_ex (C := ca 40) (fs := ["word", "index", "path"]) (vs := permV [2, 1, 0] [y, x, x]) n4 m4 o4
  generalize hH6 : upd (upd H5 d4 (exd d4 (List.zip (["word", "index", "path"] : List Str) (permV [2, 1, 0] [y, x, x])).reverse)) e4 (exo e4 (ca 40) (some d4)) = H6 at s6 x4 ⊢
  refine ⟨.ref e3, .ref e4, rfl, ?_⟩
  have s46 : Same H4 H6 := s5.trans s6
  have x3 := x3.ext (ExtN.of s6)
  have hx6 := hx2.ext (ExtN.of (s24.trans s46))
  have hy6 := hy2.ext (ExtN.of (s24.trans s46))
  refine ⟨.ref q, rfl, ?_⟩
  refine tPs_ok _ (fun s hs => ?_) fun ps2 H7 s7 hl7 hps2 => ?_
  · simp only [List.mem_cons, List.not_mem_nil, or_false] at hs
    rcases hs with rfl | rfl | rfl | rfl | rfl | rfl
    · exact ⟨y, ⟨e3, ca 40, _, rfl, xf40, xn40 _ (by decide), x3, rfl, rfl⟩, hy6⟩
    · exact ⟨x, ⟨e3, ca 40, _, rfl, xf40, xn40 _ (by decide), x3, rfl, rfl⟩, hx6⟩
    · exact ⟨x, ⟨e3, ca 40, _, rfl, xf40, xn40 _ (by decide), x3, rfl, rfl⟩, hx6⟩
    · exact ⟨x, ⟨e4, ca 40, _, rfl, xf40, xn40 _ (by decide), x4, rfl, rfl⟩, hx6⟩
    · exact ⟨x, ⟨e4, ca 40, _, rfl, xf40, xn40 _ (by decide), x4, rfl, rfl⟩, hx6⟩
    · exact ⟨y, ⟨e4, ca 40, _, rfl, xf40, xn40 _ (by decide), x4, rfl, rfl⟩, hy6⟩
  refine ⟨by rw [List.length_map, hl7, sizeLine_eq]; decide, fun q2 hq7 => ?_⟩
  have s8 : Same H7 (upd H7 q2 (.lst (ps2.map fun p => .ref p.1))) := same_upd hq7
  have kq2 : upd H7 q2 (.lst (ps2.map fun p => .ref p.1)) q2 = some (.lst (ps2.map fun p => .ref p.1)) := upd_same
  generalize upd H7 q2 (.lst (ps2.map fun p => .ref p.1)) = H8 at s8 kq2 ⊢
  have s48 : Same H4 H8 := s46.trans (s7.trans s8)
  refine ⟨q, q2, _, _, rfl, rfl, s48 _ _ kq, kq2, by rw [List.length_map, List.length_map, hl3, hl7, sizeLine_eq]; decide, fun q3 hq8 => ?_⟩
  rw [← List.map_append]
  have hl9 : (ps ++ ps2).length = 12 := by rw [List.length_append, hl3, hl7]; rfl
  have hps9 : PsAt K H8 (ps ++ ps2) := fun p hp => by
    rcases List.mem_append.mp hp with hp | hp
    · exact (hps.ext (s4.trans s48)) p hp
    · exact (hps2.ext s8) p hp
  generalize ps ++ ps2 = pp at hl9 hps9 ⊢
  have s9 : Same H8 (upd H8 q3 (.lst (pp.map fun p => .ref p.1))) := same_upd hq8
  have kq3 : upd H8 q3 (.lst (pp.map fun p => .ref p.1)) q3 = some (.lst (pp.map fun p => .ref p.1)) := upd_same
  generalize upd H8 q3 (.lst (pp.map fun p => .ref p.1)) = H9 at s9 kq3 ⊢
  have hps9 := hps9.ext s9
  have s29 : Same H2 H9 := s24.trans (s48.trans s9)
  have s69 : Same H6 H9 := s7.trans (s8.trans s9)
  have x1 := x1.ext (ExtN.of s29)
  have x3 := x3.ext (ExtN.of s69)
  -- both of all kinds
  refine ⟨.ref e1, rfl, .ref e3, rfl, by rw [sizeLine_eq]; exact (by decide : 2 ≤ 16777216), fun p hp => ⟨p, rfl, ⟨_, SqL.of upd_same⟩, ?_⟩⟩
  refine ⟨fun i m σ' H' => m + i = 2 ∧ Same (upd H9 p (.lst [.ref e1, .ref e3])) H' ∧ σ'[2]? = some (some (.ref e1)) ∧ σ'[4]? = some (some (.ref q3)) ∧ σ'[5]? = some (some (.ref e3)) ∧ σ'.length = 10, ⟨2, rfl, .refl _, rfl, rfl, rfl, rfl⟩, fun i m σ' H' ⟨hm, hS, h2, h4, h5, hl⟩ => ?_⟩
  have sH : Same H9 H' := (same_upd hp).trans hS
  by_cases hlt : i < 2
  · obtain ⟨ei, k, al, hei, hk, hk41, hka, hxi, hxc⟩ : ∃ ei k al, [V.ref e1, .ref e3][i]? = some (.ref ei) ∧ ((List.range 39).map fun j => decide (k = j)).any id = false ∧ k < 41 ∧ True ∧ ExAt H9 ei (ca k) al ∧ ExcC K (ca k) := by
      match i, hlt with
      | 0, _ => exact ⟨e1, 39, _, rfl, kinds39, by decide, trivial, x1, xc39⟩
      | 1, _ => exact ⟨e3, 40, _, rfl, kinds40, by decide, trivial, x3, xc40⟩
    refine .inr ⟨⟨_, _, SqL.of (hS _ _ upd_same), hei⟩, fun σ2 H2 => Same (upd H9 p (.lst [.ref e1, .ref e3])) H2 ∧ σ2[2]? = some (some (.ref e1)) ∧ σ2[4]? = some (some (.ref q3)) ∧ σ2[5]? = some (some (.ref e3)) ∧ σ2.length = 10, fun σ2 H2 h => ⟨m - 1, by omega, by omega, h⟩, fun v H2' hy' => ?_⟩
    obtain ⟨eH, hv⟩ := hy'
    have eH : H2' = H' := eH
    subst eH
    have hv := hv _ (SqL.of (hS _ _ upd_same))
    rw [hei] at hv
    cases hv
    have g7 : (σ'.set 7 (some (V.ref ei)))[7]? = some (some (.ref ei)) := List.getElem?_set_self (by omega)
    have gn : ∀ j, j ≠ 7 → (σ'.set 7 (some (V.ref ei)))[j]? = σ'[j]? := fun j hj => List.getElem?_set_ne (Ne.symm hj)
    have gl : (σ'.set 7 (some (V.ref ei))).length = 10 := by rw [List.length_set]; exact hl
    have hxi' := hxi.ext (ExtN.of sH)
    have hI : IsE K ca 7 k ei (σ'.set 7 (some (V.ref ei))) H2' := ⟨g7, hk41, ⟨al, hxi'⟩, hxc⟩
    refine ⟨ei, k, hI, true, rfl, ifF ⟨ei, k, hI, true, rfl, ifF ?_⟩⟩
    refine ⟨.ref ei, g7, ei, k, rfl, hk41, ⟨al, hxi'⟩, hxc, fun q' hq' => ⟨q', (List.range 39).map fun j => decide (k = j), rfl, SqL.of (by rw [upd_same]; simp [kindsV, List.map_map, Function.comp_def]), false, by rw [hk], ifF ?_⟩⟩
    exact ⟨hS.trans (same_upd hq'), (gn 2 (by decide)).trans h2, (gn 4 (by decide)).trans h4, (gn 5 (by decide)).trans h5, gl⟩
  · refine .inl ⟨⟨_, SqL.of (hS _ _ upd_same), by simp; omega⟩, ?_⟩
    have s0H : Same H H' := s12.trans (s29.trans sH)
    have kq4 := sH _ _ kq3
    have hps10 := hps9.ext sH
    refine ⟨.ref q3, h4, q3, rfl, ⟨_, SqL.of kq4⟩, ?_⟩
    intro D2 hD2
    obtain ⟨W2, w20, hW2⟩ := very_read2 (K := K) (E := E0) (Q := fun v H'' => ∃ D', v = .ref D' ∧ Same H' H'' ∧ H'' D' = some (.lst (List.replicate pp.length (.bl true)))) (σ := σ') (i := 8) (j := 9) (a := q3) (ps := pp) kq4 hps10 (by omega) (by omega) (by decide) (by omega) (fun D H3 _ s l => ⟨D, rfl, s, l⟩) D2 hD2
    refine ⟨W2, w20, fun n' m' H6 w => (hW2 n' m' H6 w).imp (fun ⟨st, D', eD, s6, hD2l⟩ => ⟨st, ?_⟩) fun z => z⟩
    cases eD
    refine ⟨D2, List.replicate pp.length true, rfl, SqL.of (by rw [hD2l]; simp), true, by simp, ifT ?_⟩
    have y1 := x1.ext (ExtN.of (sH.trans s6))
    have y3 := x3.ext (ExtN.of (sH.trans s6))
    refine ⟨e1, 39, ⟨h2, by decide, ⟨_, y1⟩, xc39⟩, false, rfl, true, rfl, ifT ?_⟩
    refine ⟨e3, 40, ⟨h5, by decide, ⟨_, y3⟩, xc40⟩, false, rfl, ?_⟩
    exact hq _ (s0H.trans s6)
end
end LW
set_option Elab.async false
set_option linter.all false
set_option maxRecDepth 100000
set_option maxHeartbeats 0
/-! W8: _law_spring, by hand (from k01 V20). -/
namespace LW
open PySem PySem.Spec PyProof.Rows L2 RT RZ Ev
abbrev sSpring : Stmt := top 54
def sprN : List Str := ["script", "turn", "cell", "mix", "at", "one"]
theorem sc_spring : FnScope sprN ["script", "turn"] (defScope sSpring) := ⟨rfl, rfl, rfl, by decide +kernel, rfl, by decide +kernel, by decide +kernel⟩
theorem ifDT {p q : Prop} {d : Bool} (hd : d = true) (h : p) : if d = true then p else q := by subst hd; exact h
theorem ifDF {p q : Prop} {d : Bool} (hd : d = false) (h : q) : if d = true then p else q := by subst hd; exact h
/-- a new spring -/
def spSpring (K : Frag) : Sp := fun vs H Q _ => ∃ (a : Addr) (ns : List Int) (t : Nat), vs = [.ref a, .int (t : Nat)] ∧ SqL K H a (ns.map V.int) ∧ ∀ (x y : Int) (H' : Hp) (p : Addr), 0 ≤ y → y < 2147483648 → Same H H' → H' p = none → Q (.ref p) (upd H' p (.lst [.int x, .int y, .int 0]))
section
variable {P : Program} {w : World} {K : Frag} {mg : Str → Option Value} {base : Heap} {a : Nat → Addr} {fd : Nat → FuncData} {n : Nat} {g : Addr} {fdv : FuncData}
theorem spring_ok (T : Txt K mg a fd) (fE : mg "enumerate" = none) (D : FunD K "_law_spring" "_law_spring" (defArgs sSpring) (defBody sSpring) (defScope sSpring) [] [] g fdv) : FnOk P w K mg base CX0 (n + 1) g fdv ["script", "turn"] (spSpring K) := by
  refine D.ok sc_spring (fun vs H Q E h => ?_) (fun cdv A outer s H vs Q E hr h => ?_)
  · obtain ⟨_, _, _, rfl, _⟩ := h
    rfl
  · obtain ⟨b, ns, t, rfl, hs, hq⟩ := h
    refine ⟨_, pss_cons (ps_par (i := 2) (j := 3) rfl sc_spring.nd rfl rfl (by decide) rfl rfl
        (pa_cons (pe_ifExp (pt_cmpR op_lt (pv 1) (pe_callB call_len rfl T.f_len PySem.boot_len (pa_cons (pv 0) pa_nil) (by decide) (by decide)) (nomark _)) (pe_ix ix_seq (pv 0) (pv 1) (by intro _ _; rfl))
          (pe_op op_add (pe_op op_mul pe_int (pv 1)) (pe_callB call_len rfl T.f_len PySem.boot_len (pa_cons (pv 0) pa_nil) (by decide) (by decide))))
        (pa_cons (pe_op op_add pe_int (pe_op op_mul pe_int (pv 1))) pa_nil)) rfl)
      (pss_cons (ps_for (passes_of rfl) rfl (pi_enum rfl fE (pa_cons (pe_slice sl_list (pv 0) po_none (po_some pe_int)) pa_nil)) (pg_tup (n := 2) rfl (pgs_cons (pg_name (i := 4) sc_spring.nd rfl (Or.inl rfl)) (pgs_cons (pg_name (i := 5) sc_spring.nd rfl (Or.inl rfl)) pgs_nil)))
        (pss_one (ps_set (i := 3) sc_spring.nd rfl (Or.inl rfl) (pe_op op_mod (pe_callTy (x := "int") call_int1 rfl T.f_int PyProof.Rows.boot_int (pa_cons (pe_op op_add (pe_op op_add (pe_op op_add (pe_op op_mul (pv 3) pe_int) (pv 5)) (pe_op op_mul pe_int (pv 4))) pe_int) pa_nil) (by decide) (by decide)) pe_int))))
      (pss_cons (ps_ret (pe_lst (pa_cons (pe_ifExp (pt_cmpR op_ge (pv 2) (pe_op op_pow pe_int pe_int) (nomark _)) (pv 2) pe_int) (pa_cons (pe_op op_mod (pe_callTy (x := "int") call_int1 rfl T.f_int PyProof.Rows.boot_int (pa_cons (pe_op op_add (pv 3) (pe_op op_mul (pv 2) pe_int)) pa_nil) (by decide) (by decide)) pe_int) (pa_cons pe_int pa_nil))))) pss_nil)), ?_⟩
    have l0 : LenV K (.ref b) H (ns.map V.int).length := .inl ⟨_, hs, rfl⟩
    have sm : ∀ i j : Int, -(2 ^ 64) < j ∧ j < 2 ^ 64 → CMul i j := fun i j h => .inr h
    -- what comes behind the first statement
    have rest : ∀ c mx : Int, tSeq (tFor (iEnum K (tCons (tSl (rSlL K) (tVar 0) tNoPart (tPart (tC (.int 63)))) tNil)) (gTup K 2 (gCons (gName 4) (gCons (gName 5) gNil))) (tAsg (tOp (rI (fun _ j => 0 < j) fun i j => .int (i % j)) (tCB (fun xs H Q => (∃ i, xs = [.int i] ∧ Q (.int i) H) ∨ ∃ k, xs = [.bl k] ∧ Q (.int (if k then 1 else 0)) H) (tCons (tOp (rI0 fun i j => .int (i + j)) (tOp (rI0 fun i j => .int (i + j)) (tOp (rI0 fun i j => .int (i + j)) (tOp (rI CMul fun i j => .int (i * j)) (tVar 3) (tC (.int 69069))) (tVar 5)) (tOp (rI CMul fun i j => .int (i * j)) (tC (.int 5)) (tVar 4))) (tC (.int 1))) tNil)) (tC (.int 2147483629))) (gName 3)))
        (tSeq (tRet (tLst (tCons (tIf (tTest (tOp (rI0 fun i j => .bl (decide (j ≤ i))) (tVar 2) (tOp (rI CPow fun i j => .int (i ^ j.toNat)) (tC (.int 10)) (tC (.int 18))))) (tVar 2) (tC (.int 0))) (tCons (tOp (rI (fun _ j => 0 < j) fun i j => .int (i % j)) (tCB (fun xs H Q => (∃ i, xs = [.int i] ∧ Q (.int i) H) ∨ ∃ k, xs = [.bl k] ∧ Q (.int (if k then 1 else 0)) H) (tCons (tOp (rI0 fun i j => .int (i + j)) (tVar 3) (tOp (rI CMul fun i j => .int (i * j)) (tVar 2) (tC (.int 31)))) tNil)) (tC (.int 2147483647))) (tCons (tC (.int 0)) tNil))))) tNext) { nx := fun _ H' => Q .non H', rt := Q } [some (.ref b), some (.int (t : Nat)), some (.int c), some (.int mx), none, none] H := by
      intro c mx
      refine ⟨.ref b, rfl, 63, rfl, b, _, rfl, hs, fun p hp => ⟨p, _, rfl, SqL.of upd_same, fun i m σ' H' => m + i = (cutV (ns.map V.int) none (some 63)).length ∧ Same (upd H p (.lst (cutV (ns.map V.int) none (some 63)))) H' ∧ σ'[0]? = some (some (.ref b)) ∧ σ'[2]? = some (some (.int c)) ∧ (∃ k, σ'[3]? = some (some (.int k))) ∧ σ'.length = 6, ⟨_, rfl, .refl _, rfl, rfl, ⟨mx, rfl⟩, rfl⟩, fun i m σ' H' ⟨hm, hS, h0, h2, ⟨k, h3⟩, hl⟩ => ?_⟩⟩
      have mem : ∀ x ∈ cutV (ns.map V.int) none (some 63), ∃ z, x = V.int z := fun x hx => by
        unfold cutV at hx
        obtain ⟨z, _, e⟩ := List.mem_map.mp (List.mem_of_mem_drop (List.mem_of_mem_take hx))
        exact ⟨z, e.symm⟩
      have sp : SqL K H' p (cutV (ns.map V.int) none (some 63)) := SqL.of (hS _ _ upd_same)
      generalize cutV (ns.map V.int) none (some 63) = xs at hm hS mem sp ⊢
      by_cases hlt : i < xs.length
      · refine .inr ⟨⟨xs, xs[i], sp, by simp [hlt]⟩, fun σ2 H2 => m - 1 + (i + 1) = xs.length ∧ Same (upd H p (.lst xs)) H2 ∧ σ2[0]? = some (some (.ref b)) ∧ σ2[2]? = some (some (.int c)) ∧ (∃ k, σ2[3]? = some (some (.int k))) ∧ σ2.length = 6, fun σ2 H2 h => ⟨m - 1, by omega, h⟩, fun v H2 hy => ?_⟩
        obtain ⟨T0, xv, rfl, hT, rfl, hx⟩ := hy
        have hx := hx _ sp
        obtain ⟨z, rfl⟩ := mem xv (List.mem_of_getElem? hx)
        refine ⟨T0, [.int (i : Nat), .int z], rfl, SqT.of upd_same, rfl, _, _, rfl, _, _, rfl, rfl, ?_⟩
        have w3 : ((σ'.set 4 (some (V.int (i : Nat)))).set 5 (some (V.int z)))[3]? = some (some (.int k)) := by rw [List.getElem?_set_ne (by decide), List.getElem?_set_ne (by decide)]; exact h3
        have w5 : ((σ'.set 4 (some (V.int (i : Nat)))).set 5 (some (V.int z)))[5]? = some (some (.int z)) := by rw [List.getElem?_set_self (by rw [List.length_set]; omega)]
        have w4 : ((σ'.set 4 (some (V.int (i : Nat)))).set 5 (some (V.int z)))[4]? = some (some (.int (i : Nat))) := by rw [List.getElem?_set_ne (by decide), List.getElem?_set_self (by omega)]
        refine ⟨.int k, w3, k, 69069, rfl, rfl, sm _ _ (by decide), .int z, w5, _, z, rfl, rfl, .int (i : Nat), w4, 5, (i : Nat), rfl, rfl, .inl (by decide), _, _, rfl, rfl, _, 1, rfl, rfl, .inl ⟨_, rfl, _, 2147483629, rfl, rfl, (show (0 : Int) < 2147483629 by decide), ?_⟩⟩
        refine ⟨by omega, hS.trans (same_upd hT), ?_, ?_, ⟨_, List.getElem?_set_self (by rw [List.length_set, List.length_set]; omega)⟩, by simp [hl]⟩
        · rw [List.getElem?_set_ne (by decide), List.getElem?_set_ne (by decide), List.getElem?_set_ne (by decide)]; exact h0
        · rw [List.getElem?_set_ne (by decide), List.getElem?_set_ne (by decide), List.getElem?_set_ne (by decide)]; exact h2
      · refine .inl ⟨⟨xs, sp, by omega⟩, ?_⟩
        have sH : Same H H' := (same_upd hp).trans hS
        have key : ∀ x : Int, (tCons (tOp (rI (fun _ j => 0 < j) fun i j => .int (i % j)) (tCB (fun xs H Q => (∃ i, xs = [.int i] ∧ Q (.int i) H) ∨ ∃ k, xs = [.bl k] ∧ Q (.int (if k then 1 else 0)) H) (tCons (tOp (rI0 fun i j => .int (i + j)) (tVar 3) (tOp (rI CMul fun i j => .int (i * j)) (tVar 2) (tC (.int 31)))) tNil)) (tC (.int 2147483647))) (tCons (tC (.int 0)) tNil)) σ' H' fun ys H1 => (V.int x :: ys).length ≤ sizeLine ∧ ∀ q, H1 q = none → Q (.ref q) (upd H1 q (.lst (V.int x :: ys))) := fun x =>
          ⟨.int k, h3, .int c, h2, c, 31, rfl, rfl, sm _ _ (by decide), k, _, rfl, rfl, .inl ⟨_, rfl, _, 2147483647, rfl, rfl, (show (0 : Int) < 2147483647 by decide), by rw [sizeLine_eq]; exact (by decide : 3 ≤ 16777216), fun q hq' => hq x _ H' q (Int.emod_nonneg _ (by decide)) (Int.lt_of_lt_of_le (Int.emod_lt_of_pos _ (by decide)) (by decide)) sH hq'⟩⟩
        refine ⟨.int c, h2, 10, 18, rfl, rfl, ⟨by decide, by decide, by decide⟩, c, _, rfl, rfl, _, rfl, ?_⟩
        by_cases hb : (10 : Int) ^ (18 : Int).toNat ≤ c
        · exact ifDT (decide_eq_true hb) ⟨.int c, h2, key c⟩
        · exact ifDF (decide_eq_false hb) (key 0)
    by_cases ht : t < ns.length
    · refine ⟨.int (t : Nat), rfl, .ref b, rfl, .ref b, _, rfl, l0, (t : Nat), _, rfl, rfl, _, rfl, ?_⟩
      exact ifDT (decide_eq_true (by rw [List.length_map]; omega)) ⟨.ref b, rfl, .int (t : Nat), rfl, .inl ⟨b, _, (t : Nat), .int ns[t], rfl, rfl, hs, atI_nat (by simp [ht]), .int (t : Nat), rfl, 97, (t : Nat), rfl, rfl, .inl (by decide), 1009, _, rfl, rfl, _, _, rfl, rest _ _⟩⟩
    · refine ⟨.int (t : Nat), rfl, .ref b, rfl, .ref b, _, rfl, l0, (t : Nat), _, rfl, rfl, _, rfl, ?_⟩
      exact ifDF (decide_eq_false (by rw [List.length_map]; omega)) ⟨.int (t : Nat), rfl, 7, (t : Nat), rfl, rfl, .inl (by decide), .ref b, rfl, .ref b, _, rfl, l0, _, _, rfl, rfl, .int (t : Nat), rfl, 97, (t : Nat), rfl, rfl, .inl (by decide), 1009, _, rfl, rfl, _, _, rfl, rest _ _⟩
end
end LW
set_option Elab.async false
set_option linter.all false
set_option maxRecDepth 100000
set_option maxHeartbeats 0
/-! W9: the law's parts. -/
namespace LW
open PySem PySem.Spec PyProof.Rows L2 RT RZ Ev LamX LamD SupX
def tIs0 (b : Bool) : TE := fun _ H Q => ∀ H', Same H H' → Q (.bl b) H'
section
variable {X : Cx} {ca : Nat → Addr} {cm : Addr} {j : Nat} {c1 c2 : Str} {fs : List Str} {p p1 p2 q1 pos : Pos}
/-- isinstance(C(), D) -/
theorem pe_is0 (CT : CTxt X.prog X.K X.mg ca cm) (hr : Room j X.A) (i k : Nat) (hi : cT[i]? = some (c1, [])) (hk : cT[k]? = some (c2, fs)) (i41 : i < 41) (k41 : k < 41) (fi : X.mg "isinstance" = none) (hgi : Gl X "isinstance") (hg1 : Gl X c1) (hg2 : Gl X c2) (hd1 : (c1 == ("__debug__" : Str)) = false) (hd2 : (c2 == ("__debug__" : Str)) = false)
    (he : starEach [.Call (.Name c1 p1) [] [] q1, .Name c2 p2] X.env = (false, eval (.Call (.Name c1 p1) [] [] q1) X.env) :: starEach [.Name c2 p2] X.env) (he2 : starEach [.Name c2 p2] X.env = (false, eval (.Name c2 p2) X.env) :: starEach [] X.env) (hpl : (backTo pos (starEach [.Name c2 p2] X.env)).any (·.1) = false) : PE X (.Call (.Name "isinstance" p) [.Call (.Name c1 p1) [] [] q1, .Name c2 p2] [] pos) (tIs0 (decide (i = k))) := by
  have h0 := pe_callB (x := "isinstance") (p := p) (pos := pos) call_isX hgi fi PyProof.Rows.boot_isinstance (pa_cons (pe_ex0 (p := p1) (pos := q1) (CT.ok i c1 [] hi) hr hg1 hd1) (pa_cons (pe_glob (pos := p2) (v := .ref (ca k)) hg2 (CT.mgC k c2 fs hk) rfl hd2) pa_nil he2) he) (by decide) (by decide) he hpl
  refine ⟨fun pins s σ H Q I q => h0.run pins s σ H Q I fun e hn => ?_⟩
  exact ⟨_, _, _, _, _, _, rfl, .own _, ⟨none, upd_same, rfl⟩, (CT.xf i c1 [] hi).2.1, CT.kit i k i41 k41, q _ (same_upd hn)⟩
theorem pe_is0M (CT : CTxt X.prog X.K X.mg ca cm) (hr : Room j X.A) (i : Nat) (hi : cT[i]? = some (c1, [])) (i41 : i < 41) (fi : X.mg "isinstance" = none) (hgi : Gl X "isinstance") (hg1 : Gl X c1) (hg2 : Gl X "MillError") (hd1 : (c1 == ("__debug__" : Str)) = false)
    (he : starEach [.Call (.Name c1 p1) [] [] q1, .Name "MillError" p2] X.env = (false, eval (.Call (.Name c1 p1) [] [] q1) X.env) :: starEach [.Name "MillError" p2] X.env) (he2 : starEach [.Name "MillError" p2] X.env = (false, eval (.Name "MillError" p2) X.env) :: starEach [] X.env) (hpl : (backTo pos (starEach [.Name "MillError" p2] X.env)).any (·.1) = false) : PE X (.Call (.Name "isinstance" p) [.Call (.Name c1 p1) [] [] q1, .Name "MillError" p2] [] pos) (tIs0 true) := by
  have h0 := pe_callB (x := "isinstance") (p := p) (pos := pos) call_isX hgi fi PyProof.Rows.boot_isinstance (pa_cons (pe_ex0 (p := p1) (pos := q1) (CT.ok i c1 [] hi) hr hg1 hd1) (pa_cons (pe_glob (pos := p2) (v := .ref cm) hg2 CT.mgM rfl (by decide)) pa_nil he2) he) (by decide) (by decide) he hpl
  refine ⟨fun pins s σ H Q I q => h0.run pins s σ H Q I fun e hn => ?_⟩
  exact ⟨_, _, _, _, _, _, rfl, .own _, ⟨none, upd_same, rfl⟩, (CT.xf i c1 [] hi).2.1, CT.kitM i i41, q _ (same_upd hn)⟩
end
/-! ### draws -/
def noH : Hp := fun _ => none
/-- a thing that does not lean on p -/
def ThingP (K : Frag) (H : Hp) (p : Addr) (v : V) : Prop := ∃ d F, Same F H ∧ F p = none ∧ NoTb F ∧ Dn K F v d ∧ ThD d = true
theorem ThingP.to {K : Frag} {H : Hp} {p : Addr} {v : V} (h : ThingP K H p v) : Thing K H v := by
  obtain ⟨d, F, s, _, n, dn, t⟩ := h
  exact ⟨d, F, s, n, dn, t⟩
theorem ThingP.frm {K : Frag} {H H' : Hp} {p : Addr} {v : V} (h : ThingP K H p v) (f : ∀ b o, H b = some o → b ≠ p → H' b = some o) : ThingP K H' p v := by
  obtain ⟨d, F, s, e, n, dn, t⟩ := h
  exact ⟨d, F, fun b o hb => f b o (s b o hb) (fun z => by rw [z, e] at hb; cases hb), e, n, dn, t⟩
theorem spr_dn {K : Frag} {F G : Hp} {k : Nat} {xs : List PyData} {ws : List V} (h : Spr k xs) (d : DnA K F ws xs) : DnA K G ws xs := by
  obtain ⟨x, y, z, rfl, _, _, _⟩ := h
  cases d with
  | cons d1 d => cases d with
    | cons d2 d => cases d with
      | cons d3 d =>
        cases d; cases d1; cases d2; cases d3
        exact .cons (.int _) (.cons (.int _) (.cons (.int _) .nil))
theorem drawn1 {K : Frag} {n k : Nat} {p : Addr} {ws : List V} {xs : List PyData} {H : Hp} {Q : VK} {E : XK} (hH : H p = some (.lst ws)) (hx : DnA K noH ws xs) (hs : Spr k xs) (hk : k ≤ 100000)
    (hq : ∀ v H' ws' xs', (∀ b o, H b = some o → b ≠ p → H' b = some o) → H' p = some (.lst ws') → DnA K noH ws' xs' → Spr (k + 10) xs' → ThingP K H' p v → Q v H') : spF K (callN Φ (n + 6)) 46 1 [.ref p] H Q E := by
  obtain ⟨o, l', e, hd, hs'⟩ := drawn_ok (n := n + 3) hs hk
  refine ⟨noH, [.own xs], o, [l'], (fun _ _ z => by cases z), .own rfl hH hx .nil, List.nodup_cons.mpr ⟨List.not_mem_nil, List.nodup_nil⟩, rfl, e, fun v H' F' R => ?_⟩
  have ho := R.out
  cases ho with
  | cons q1 q2 q3 q4 =>
  refine hq v H' _ l' (fun b x hb hn => R.frm b x hb fun z => hn (List.mem_singleton.mp z)) q2 (spr_dn hs' q3) hs' ?_
  have up : untb F' p = none := by
    unfold untb
    rw [q1]
  have hr := R.res
  cases o with
  | imm d => exact ⟨d, untb F', untb_le.trans R.sub, up, untb_no, Dn.monoN (fun b x h n => untb_some h n) hr, hd⟩
  | own ys =>
    obtain ⟨a, us, rfl, a1, a2, a3, a4⟩ := hr
    have ua : untb F' a = none := by
      unfold untb
      rw [a2]
    have hpa : p ≠ a := fun z => by rw [← z, hH] at a1; cases a1
    refine ⟨.list ys, upd (untb F') a (.lst us), fun b x h => ?_, by rw [upd_ne hpa]; exact up, fun b ps h => ?_, .lst upd_same (DnA.mono (same_upd ua) (DnA.monoN (fun b x h n => untb_some h n) a4)), hd⟩
    · by_cases hb : b = a
      · rw [hb, upd_same] at h
        cases h
        rw [hb]
        exact a3
      · rw [upd_ne hb] at h
        exact R.sub _ _ (untb_le _ _ h)
    · by_cases hb : b = a
      · rw [hb, upd_same] at h
        cases h
      · rw [upd_ne hb] at h
        exact untb_no _ _ h
/-! ### the rows -/
def rowV (x y : V) (k : Nat) : List V := if k < 33 then [x] else [x, y]
def RowsX (H : Hp) (ca : Nat → Addr) (x y : V) (rs : List Addr) : Prop := rs.length = 37 ∧ ∀ k r, rs[k]? = some r → RowAt H r (ca k) (cF k) (rowV x y k)
theorem RowsX.ext {H H' : Hp} {ca : Nat → Addr} {x y : V} {rs : List Addr} (h : RowsX H ca x y rs) (e : ExtN H H') : RowsX H' ca x y rs := ⟨h.1, fun k r hr => (h.2 k r hr).ext e⟩
theorem rows_app {H : Hp} {ca : Nat → Addr} {n : Nat} {vs : List V} {as bs : List Addr} {f : Nat → List V} (ha : as.length = n) (h1 : ∀ k r, as[k]? = some r → RowAt H r (ca k) (cF k) (f k)) (h2 : RowsAt H ca n vs bs) (hf : ∀ k, n ≤ k → k < n + bs.length → f k = vs) : ∀ k r, (as ++ bs)[k]? = some r → RowAt H r (ca k) (cF k) (f k) := fun k r hr => by
  by_cases h : k < as.length
  · rw [List.getElem?_append_left h] at hr
    exact h1 k r hr
  · rw [List.getElem?_append_right (Nat.le_of_not_lt h)] at hr
    have hb : k - as.length < bs.length := (List.getElem?_eq_some_iff.mp hr).1
    have := h2 _ r hr
    rw [ha, show n + (k - n) = k from by omega] at this
    rw [hf k (by omega) (by omega)]
    exact this
theorem found_ok {K : Frag} {Tb : List (Addr × Str)} {ca : Nat → Addr} {i j : Nat} {x y : V} {σ : L2.St} {H : Hp} {Q : VK} {E : XK} (hi : σ[i]? = some (some x)) (hj : σ[j]? = some (some y)) (hT : Tabs Tb H)
    (hq : ∀ v H', (∃ p rs, v = .ref p ∧ ExtN H H' ∧ Tabs Tb H' ∧ H' p = some (.lst (rs.map V.ref)) ∧ RowsX H' ca x y rs) → Q v H') :
    tOp rCat (tOp rCat (tOp rCat (tCall (spRows Tb ca 0 11 1) [] E (tCons (tVar i) tNil)) (tCall (spRows Tb ca 11 11 1) [] E (tCons (tVar i) tNil))) (tCall (spRows Tb ca 22 11 1) [] E (tCons (tVar i) tNil))) (tCall (spRows Tb ca 33 4 2) [] E (tCons (tVar i) (tCons (tVar j) tNil))) σ H Q := by
  have nl : ∀ (xs : List V) (ps : Array Value), (HO.lst xs) ≠ .tbl ps := fun _ _ z => by cases z
  refine ⟨x, hi, rfl, hT, fun H1 p1 r1 e1 t1 l1 _ n1 w1 => ?_⟩
  refine ⟨x, hi, rfl, t1, fun H2 p2 r2 e2 t2 l2 _ n2 w2 => ?_⟩
  refine ⟨p1, p2, _, _, rfl, rfl, e2 _ _ l1 (nl _), l2, by rw [List.length_map, List.length_map, n1, n2, sizeLine_eq]; decide, fun q2 hq2 => ?_⟩
  rw [← List.map_append]
  have s2 : Same H2 (upd H2 q2 (.lst ((r1 ++ r2).map V.ref))) := same_upd hq2
  have k2 : upd H2 q2 (.lst ((r1 ++ r2).map V.ref)) q2 = some (.lst ((r1 ++ r2).map V.ref)) := upd_same
  generalize upd H2 q2 (.lst ((r1 ++ r2).map V.ref)) = H2' at s2 k2 ⊢
  refine ⟨x, hi, rfl, t2.ext s2, fun H3 p3 r3 e3 t3 l3 _ n3 w3 => ?_⟩
  refine ⟨q2, p3, _, _, rfl, rfl, e3 _ _ k2 (nl _), l3, by rw [List.length_map, List.length_map, List.length_append, n1, n2, n3, sizeLine_eq]; decide, fun q3 hq3 => ?_⟩
  rw [← List.map_append]
  have s3 : Same H3 (upd H3 q3 (.lst ((r1 ++ r2 ++ r3).map V.ref))) := same_upd hq3
  have k3 : upd H3 q3 (.lst ((r1 ++ r2 ++ r3).map V.ref)) q3 = some (.lst ((r1 ++ r2 ++ r3).map V.ref)) := upd_same
  generalize upd H3 q3 (.lst ((r1 ++ r2 ++ r3).map V.ref)) = H3' at s3 k3 ⊢
  refine ⟨x, hi, y, hj, rfl, t3.ext s3, fun H4 p4 r4 e4 t4 l4 _ n4 w4 => ?_⟩
  refine ⟨q3, p4, _, _, rfl, rfl, e4 _ _ k3 (nl _), l4, by rw [List.length_map, List.length_map, List.length_append, List.length_append, n1, n2, n3, n4, sizeLine_eq]; decide, fun q4 hq4 => ?_⟩
  rw [← List.map_append]
  have s4 : Same H4 (upd H4 q4 (.lst ((r1 ++ r2 ++ r3 ++ r4).map V.ref))) := same_upd hq4
  have x34 : ExtN H3 H4 := (ExtN.of s3).trans e4
  have x24 : ExtN H2 H4 := ((ExtN.of s2).trans e3).trans x34
  have x14 : ExtN H1 H4 := e2.trans x24
  refine hq _ _ ⟨q4, _, rfl, ((e1.trans x14)).trans (ExtN.of s4), t4.ext s4, upd_same, ?_⟩
  refine ⟨by simp [n1, n2, n3, n4], ?_⟩
  intro k r hk
  refine RowAt.ext ?_ (ExtN.of s4)
  revert k r
  refine rows_app (n := 33) (vs := [x, y]) (by simp [n1, n2, n3]) (rows_app (n := 22) (vs := [x]) (by simp [n1, n2]) (rows_app (n := 11) (vs := [x]) n1 (fun k r hr => ?_) (w2.ext x24) fun k _ _ => if_pos (by omega)) (w3.ext x34) fun k _ _ => if_pos (by omega)) w4 fun k _ _ => if_neg (by omega)
  have hb : k < r1.length := (List.getElem?_eq_some_iff.mp hr).1
  have := (w1.ext x14) k r hr
  rw [Nat.zero_add] at this
  unfold rowV
  rw [if_pos (by omega)]
  exact this
/-! ### the loops -/
theorem right_in {K : Frag} {ca : Nat → Addr} {H : Hp} {x y : V} {rs : List Addr} {r : Addr} {k : Nat} (R : RowsX H ca x y rs) (hr : rs[k]? = some r) (tx : Thing K H x) (ty : Thing K H y) : k < 37 ∧ RowAt H r (ca k) (cF k) (rowV x y k) ∧ (rowV x y k).length < 100 ∧ ∀ v ∈ rowV x y k, Thing K H v := by
  have hk : k < rs.length := (List.getElem?_eq_some_iff.mp hr).1
  refine ⟨by have := R.1; omega, R.2 k r hr, ?_, ?_⟩
  · unfold rowV
    split
    · exact (by decide : 1 < 100)
    · exact (by decide : 2 < 100)
  · intro v hv
    unfold rowV at hv
    split at hv
    · rw [List.mem_singleton] at hv
      rw [hv]; exact tx
    · rcases List.mem_cons.mp hv with rfl | hv
      · exact tx
      · rw [List.mem_singleton] at hv
        rw [hv]; exact ty
section
variable {K : Frag} {ca : Nat → Addr} {x y : V} {rs os : List Addr} {D : Ends} {σ : L2.St} {H : Hp} {i a b : Nat} {E : XK} {p o : Addr}
def tEnd1 (K : Frag) (ca : Nat → Addr) (E : XK) : TS := tSeq (tIfS (tNot (tB (tCall (spRight K ca) [] E (tCons (tVar 7) (tCons (tVar 6) tNil))))) tNever tNext) tNext
theorem loop1 (hl : σ.length = 12) (hi : i ≠ 6 ∧ i ≠ 7) (hf : σ[i]? = some (some (.ref p))) (hp : H p = some (.lst (rs.map V.ref))) (R : RowsX H ca x y rs) (tx : Thing K H x) (ty : Thing K H y) (hq : ∀ σ' H', Same H H' → (∀ j, j ≠ 6 → j ≠ 7 → σ'[j]? = σ[j]?) → σ'.length = 12 → D.nx σ' H') :
    tFor (iEnum K (tCons (tVar i) tNil)) (gTup K 2 (gCons (gName 6) (gCons (gName 7) gNil))) (tEnd1 K ca E) D σ H := by
  refine ⟨.ref p, hf, p, _, rfl, SqL.of hp, fun n m σ' H' => m + n = 37 ∧ Same H H' ∧ (∀ j, j ≠ 6 → j ≠ 7 → σ'[j]? = σ[j]?) ∧ σ'.length = 12, ⟨37, rfl, .refl _, fun _ _ _ => rfl, hl⟩, fun n m σ' H' ⟨hm, hS, hj, hl'⟩ => ?_⟩
  have hrl := R.1
  by_cases hlt : n < rs.length
  · refine .inr ⟨⟨_, .ref rs[n], SqL.of (hS _ _ hp), by simp [hlt]⟩, fun σ2 H2 => Same H H2 ∧ (∀ j, j ≠ 6 → j ≠ 7 → σ2[j]? = σ[j]?) ∧ σ2.length = 12, fun σ2 H2 h => ⟨m - 1, by omega, by omega, h⟩, fun v H2 hy => ?_⟩
    obtain ⟨T, xv, rfl, hT, rfl, hx⟩ := hy
    have hx := hx _ (SqL.of (hS _ _ hp))
    rw [List.getElem?_map, List.getElem?_eq_getElem hlt] at hx
    cases hx
    have hS' : Same H (upd H' T (.tup [.int (n : Nat), .ref rs[n]])) := hS.trans (same_upd hT)
    have w6 : ((σ'.set 6 (some (V.int (n : Nat)))).set 7 (some (V.ref rs[n])))[6]? = some (some (.int (n : Nat))) := by rw [List.getElem?_set_ne (by decide), List.getElem?_set_self (by omega)]
    have w7 : ((σ'.set 6 (some (V.int (n : Nat)))).set 7 (some (V.ref rs[n])))[7]? = some (some (.ref rs[n])) := by rw [List.getElem?_set_self (by rw [List.length_set]; omega)]
    refine ⟨T, _, rfl, SqT.of upd_same, rfl, _, _, rfl, _, _, rfl, rfl, ?_⟩
    obtain ⟨a1, a2, a3, a4⟩ := right_in (K := K) (R.ext (ExtN.of hS')) (List.getElem?_eq_getElem hlt) (tx.ext (ExtN.of hS')) (ty.ext (ExtN.of hS'))
    refine ⟨_, w7, _, w6, _, n, _, rfl, a1, a2, a3, a4, fun H3 s3 => ⟨true, rfl, ifF ?_⟩⟩
    refine ⟨hS'.trans s3, fun j h6 h7 => ?_, by rw [List.length_set, List.length_set]; exact hl'⟩
    rw [List.getElem?_set_ne (Ne.symm h7), List.getElem?_set_ne (Ne.symm h6)]
    exact hj j h6 h7
  · exact .inl ⟨⟨_, SqL.of (hS _ _ hp), by rw [List.length_map]; omega⟩, hq σ' H' hS hj hl'⟩
def tEnd2 (K : Frag) (ca : Nat → Addr) (E : XK) (i : Nat) : TS := tSeq (tIfS (tOr (tNot (tB (tCall (spRight K ca) [] E (tCons (tVar 7) (tCons (tVar 6) tNil))))) (tNot (tB (tCall (spRight K ca) [] E (tCons (tOp (rIx K) (tVar i) (tVar 6)) (tCons (tVar 6) tNil)))))) tNever tNext) tNext
theorem loop2 (hl : σ.length = 12) (hi : i ≠ 6 ∧ i ≠ 7) (ha : a ≠ 6 ∧ a ≠ 7) (hf : σ[i]? = some (some (.ref p))) (hp : H p = some (.lst (rs.map V.ref))) (R : RowsX H ca x y rs) (hf2 : σ[a]? = some (some (.ref o))) (ho : H o = some (.lst (os.map V.ref))) (R2 : RowsX H ca y x os) (tx : Thing K H x) (ty : Thing K H y) (hq : ∀ σ' H', Same H H' → (∀ j, j ≠ 6 → j ≠ 7 → σ'[j]? = σ[j]?) → σ'.length = 12 → D.nx σ' H') :
    tFor (iEnum K (tCons (tVar a) tNil)) (gTup K 2 (gCons (gName 6) (gCons (gName 7) gNil))) (tEnd2 K ca E i) D σ H := by
  refine ⟨.ref o, hf2, o, _, rfl, SqL.of ho, fun n m σ' H' => m + n = 37 ∧ Same H H' ∧ (∀ j, j ≠ 6 → j ≠ 7 → σ'[j]? = σ[j]?) ∧ σ'.length = 12, ⟨37, rfl, .refl _, fun _ _ _ => rfl, hl⟩, fun n m σ' H' ⟨hm, hS, hj, hl'⟩ => ?_⟩
  have hrl := R.1
  have hrl2 := R2.1
  by_cases hlt : n < os.length
  · refine .inr ⟨⟨_, .ref os[n], SqL.of (hS _ _ ho), by simp [hlt]⟩, fun σ2 H2 => Same H H2 ∧ (∀ j, j ≠ 6 → j ≠ 7 → σ2[j]? = σ[j]?) ∧ σ2.length = 12, fun σ2 H2 h => ⟨m - 1, by omega, by omega, h⟩, fun v H2 hy => ?_⟩
    have hlt2 : n < rs.length := by omega
    obtain ⟨T, xv, rfl, hT, rfl, hx⟩ := hy
    have hx := hx _ (SqL.of (hS _ _ ho))
    rw [List.getElem?_map, List.getElem?_eq_getElem hlt] at hx
    cases hx
    have hS' : Same H (upd H' T (.tup [.int (n : Nat), .ref os[n]])) := hS.trans (same_upd hT)
    have w6 : ((σ'.set 6 (some (V.int (n : Nat)))).set 7 (some (V.ref os[n])))[6]? = some (some (.int (n : Nat))) := by rw [List.getElem?_set_ne (by decide), List.getElem?_set_self (by omega)]
    have w7 : ((σ'.set 6 (some (V.int (n : Nat)))).set 7 (some (V.ref os[n])))[7]? = some (some (.ref os[n])) := by rw [List.getElem?_set_self (by rw [List.length_set]; omega)]
    have wi : ((σ'.set 6 (some (V.int (n : Nat)))).set 7 (some (V.ref os[n])))[i]? = some (some (.ref p)) := by
      rw [List.getElem?_set_ne (Ne.symm hi.2), List.getElem?_set_ne (Ne.symm hi.1), hj i hi.1 hi.2]
      exact hf
    refine ⟨T, _, rfl, SqT.of upd_same, rfl, _, _, rfl, _, _, rfl, rfl, ?_⟩
    obtain ⟨a1, a2, a3, a4⟩ := right_in (K := K) (R2.ext (ExtN.of hS')) (List.getElem?_eq_getElem hlt) (ty.ext (ExtN.of hS')) (tx.ext (ExtN.of hS'))
    refine ⟨_, w7, _, w6, _, n, _, rfl, a1, a2, a3, a4, fun H3 s3 => ⟨true, rfl, ifF ?_⟩⟩
    have s03 : Same H H3 := hS'.trans s3
    refine ⟨_, wi, _, w6, .inl ⟨p, _, (n : Nat), .ref rs[n], rfl, rfl, SqL.of (s03 _ _ hp), atI_nat (by simp [hlt2]), ?_⟩⟩
    obtain ⟨b1, b2, b3, b4⟩ := right_in (K := K) (R.ext (ExtN.of s03)) (List.getElem?_eq_getElem hlt2) (tx.ext (ExtN.of s03)) (ty.ext (ExtN.of s03))
    refine ⟨_, w6, _, n, _, rfl, b1, b2, b3, b4, fun H4 s4 => ⟨true, rfl, ifF ?_⟩⟩
    refine ⟨s03.trans s4, fun j h6 h7 => ?_, by rw [List.length_set, List.length_set]; exact hl'⟩
    rw [List.getElem?_set_ne (Ne.symm h7), List.getElem?_set_ne (Ne.symm h6)]
    exact hj j h6 h7
  · exact .inl ⟨⟨_, SqL.of (hS _ _ ho), by rw [List.length_map]; omega⟩, hq σ' H' hS hj hl'⟩
end
end LW
set_option Elab.async false
set_option linter.all false
set_option maxRecDepth 100000
set_option maxHeartbeats 0
/-! W10: the law. -/
namespace LW
open PySem PySem.Spec PyProof.Rows L2 RT RZ Ev LamX LamD SupX
abbrev sLaw : Stmt := top 68
def lawN : List Str := ["script", "turn", "spring", "x", "y", "found", "at", "row", "other", "many", "k", "is_one"]
theorem sc_law : FnScope lawN ["script"] (defScope sLaw) := ⟨rfl, rfl, rfl, by decide +kernel, rfl, by decide +kernel, by decide +kernel⟩
def spLaw (K : Frag) (Tb : List (Addr × Str)) : Sp := fun vs H Q _ => ∃ (b : Addr) (ns : List Int), vs = [.ref b] ∧ SqL K H b (ns.map V.int) ∧ Tabs Tb H ∧ ∀ H', Q (.bl true) H'
theorem sq_keep {K : Frag} {H H' : Hp} {b : Addr} {xs : List V} (h : SqL K H b xs) (e : ∀ x, H b = some x → (∀ ps, x ≠ .tbl ps) → H' b = some x) : SqL K H' b xs := by
  rcases h with (h | ⟨o, h⟩) | h
  · exact .inl (.inl (e _ h fun _ z => by cases z))
  · exact .inl (.inr ⟨o, e _ h fun _ z => by cases z⟩)
  · exact .inr h
theorem sq_ext {K : Frag} {H H' : Hp} {b : Addr} {xs : List V} (h : SqL K H b xs) (e : ExtN H H') : SqL K H' b xs := sq_keep h fun x h1 h2 => e _ _ h1 h2
/-- all but the spring stays -/
theorem tabs_frm {T : List (Addr × Str)} {H H' : Hp} {p : Addr} {ws : List V} (t : Tabs T H) (hp : H p = some (.lst ws)) (f : ∀ b o, H b = some o → b ≠ p → H' b = some o) : Tabs T H' :=
  tabs_lst t fun b o h n => f b o h fun z => by
    rw [z, hp] at h
    cases h
    exact n _ rfl
/-- the law's depth -/
structure LawT (P : Program) (w : World) (K : Frag) (mg : Str → Option Value) (base : Heap) (a : Nat → Addr) (fd : Nat → FuncData) (ca : Nat → Addr) (cm : Addr) (Tb : List (Addr × Str)) (ga : Nat → Addr) (gf : Nat → FuncData) (gc gp : Nat → Addr) : Prop where
  txt : Txt K mg a fd
  ct : CTxt P K mg ca cm
  dS : FunD K "_law_spring" "_law_spring" (defArgs sSpring) (defBody sSpring) (defScope sSpring) [] [] (ga 0) (gf 0)
  mS : mg "_law_spring" = some (.ref (ga 0))
  d1 : FunD K "_law_e_first" "_law_e_first" (defArgs s_law_e_first) (defBody s_law_e_first) (defScope s_law_e_first) [] [] (ga 1) (gf 1)
  m1 : mg "_law_e_first" = some (.ref (ga 1))
  c1 : (gf 1).code = .ref (gc 1)
  o1 : Own1 base mg Tb "_law_e_first.<locals>.<lambda>" (gc 1) (gp 1)
  d2 : FunD K "_law_e_second" "_law_e_second" (defArgs s_law_e_second) (defBody s_law_e_second) (defScope s_law_e_second) [] [] (ga 2) (gf 2)
  m2 : mg "_law_e_second" = some (.ref (ga 2))
  c2 : (gf 2).code = .ref (gc 2)
  o2 : Own1 base mg Tb "_law_e_second.<locals>.<lambda>" (gc 2) (gp 2)
  d3 : FunD K "_law_e_third" "_law_e_third" (defArgs s_law_e_third) (defBody s_law_e_third) (defScope s_law_e_third) [] [] (ga 3) (gf 3)
  m3 : mg "_law_e_third" = some (.ref (ga 3))
  c3 : (gf 3).code = .ref (gc 3)
  o3 : Own1 base mg Tb "_law_e_third.<locals>.<lambda>" (gc 3) (gp 3)
  d4 : FunD K "_law_e_fourth" "_law_e_fourth" (defArgs s_law_e_fourth) (defBody s_law_e_fourth) (defScope s_law_e_fourth) [] [] (ga 4) (gf 4)
  m4 : mg "_law_e_fourth" = some (.ref (ga 4))
  c4 : (gf 4).code = .ref (gc 4)
  o4 : Own1 base mg Tb "_law_e_fourth.<locals>.<lambda>" (gc 4) (gp 4)
  dK : FunD K "_law_e_kinds" "_law_e_kinds" (defArgs s_law_e_kinds) (defBody s_law_e_kinds) (defScope s_law_e_kinds) [] [] (ga 5) (gf 5)
  mK : mg "_law_e_kinds" = some (.ref (ga 5))
  dR : FunD K "_law_e_right" "_law_e_right" (defArgs s_law_e_right) (defBody s_law_e_right) (defScope s_law_e_right) [] [] (ga 6) (gf 6)
  mR : mg "_law_e_right" = some (.ref (ga 6))
  dB : FunD K "_law_e_breaks" "_law_e_breaks" (defArgs s_law_e_breaks) (defBody s_law_e_breaks) (defScope s_law_e_breaks) [] [] (ga 7) (gf 7)
  mB : mg "_law_e_breaks" = some (.ref (ga 7))
section
variable {P : Program} {w : World} {K : Frag} {mg : Str → Option Value} {base : Heap} {a : Nat → Addr} {fd : Nat → FuncData} {n : Nat} {ca : Nat → Addr} {cm : Addr} {Tb : List (Addr × Str)} {ga : Nat → Addr} {gf : Nat → FuncData} {gc gp : Nat → Addr} {g : Addr} {fdv : FuncData}
/-- [k for k, is_one in enumerate(kinds) if is_one] != [k] -/
theorem kinds_read {σ : L2.St} {H : Hp} {k : Nat} {q : Addr} {E : XK} {Q : VK} (hl : σ.length = 12) (hk : k < 39) (hq : H q = some (.lst (kindsV k))) (hQ : ∀ D' H', Same H H' → H' D' = some (.lst [.int k]) → Q (.ref D') H') :
    ∀ D, H D = none → ∃ W : Nat → Nat → Hp → Prop, (∃ m, W 0 m (upd H D (.lst []))) ∧ ∀ n m H, W n m H → ((Ite K q).stop n H ∧ Q (.ref D) H) ∨ ((Ite K q).go n H ∧ ∃ Nx : Hp → Prop, (∀ H', Nx H' → ∃ m', m' < m ∧ W (n + 1) m' H') ∧ ∀ x H', (Ite K q).yld n H x H' →
      gTup K 2 (gCons (gName 10) (gCons (gName 11) gNil)) x (wipe σ [10, 11]) H' fun σ2 H2 => wipe σ2 [10, 11] = wipe σ [10, 11] ∧ tB (tVar 11) σ2 H2 fun b H3 => if b = true then tVar 10 σ2 H3 fun y H4 => ∃ acc, H4 D = some (.lst acc) ∧ acc.length < sizeLine ∧ Nx (upd H4 D (.lst (acc ++ [y]))) else Nx H3) := by
  intro D hD
  have hkb : H q = some (.lst (((List.range 39).map fun j => decide (k = j)).map V.bl)) := by
    rw [hq]
    simp [kindsV, List.map_map, Function.comp_def]
  obtain ⟨W, w0, hW⟩ := trues_read (K := K) (Q := fun v H' => ∃ D', v = .ref D' ∧ Same H H' ∧ H' D' = some (.lst ((trues 0 ((List.range 39).map fun j => decide (k = j))).map V.int))) (σ := σ) (i := 10) (j := 11) (a := q) (bs := (List.range 39).map fun j => decide (k = j)) hkb (by omega) (by omega) (by decide) (by simp) (fun D H3 _ s l => ⟨D, rfl, s, l⟩) D hD
  refine ⟨W, w0, fun n' m' H3 w => (hW n' m' H3 w).imp (fun ⟨st, D', eD, s3, hDl⟩ => ⟨st, ?_⟩) fun z => z⟩
  cases eD
  rw [trues_kinds k (by omega), if_pos (by omega)] at hDl
  exact hQ D H3 s3 hDl
theorem law_ok (L : LawT P w K mg base a fd ca cm Tb ga gf gc gp) (gd : Good P w K mg base a fd (n + 6)) (D : FunD K "law" "law" (defArgs sLaw) (defBody sLaw) (defScope sLaw) [] [] g fdv) : FnOkG P w K mg base CX0 (n + 8) g fdv ["script"] (spLaw K Tb) := by
  have T := L.txt
  have CT := L.ct
  have fE := CT.fE
  have B1 := fun (f : FuncData) => f
  have bS : L2.Binds K (gf 0) ["script", "turn"] [] := L.dS.bindsN fun _ _ _ _ _ _ us hl => match us, hl with | [_, _], _ => rfl
  have b1 : L2.Binds K (gf 1) ["x"] [] := L.d1.bindsN fun _ _ _ _ _ _ us hl => match us, hl with | [_], _ => rfl
  have b2 : L2.Binds K (gf 2) ["x"] [] := L.d2.bindsN fun _ _ _ _ _ _ us hl => match us, hl with | [_], _ => rfl
  have b3 : L2.Binds K (gf 3) ["x"] [] := L.d3.bindsN fun _ _ _ _ _ _ us hl => match us, hl with | [_], _ => rfl
  have b4 : L2.Binds K (gf 4) ["x", "y"] [] := L.d4.bindsN fun _ _ _ _ _ _ us hl => match us, hl with | [_, _], _ => rfl
  have bK : L2.Binds K (gf 5) ["e"] [] := L.dK.bindsN fun _ _ _ _ _ _ us hl => match us, hl with | [_], _ => rfl
  have bR : L2.Binds K (gf 6) ["row", "at"] [] := L.dR.bindsN fun _ _ _ _ _ _ us hl => match us, hl with | [_, _], _ => rfl
  have bB : L2.Binds K (gf 7) ["x", "y"] [] := L.dB.bindsN fun _ _ _ _ _ _ us hl => match us, hl with | [_, _], _ => rfl
  have F1 := ok_law_e_first (n := n + 6) (w := w) CT L.d1 L.c1 L.o1
  have F2 := ok_law_e_second (n := n + 6) (w := w) CT L.d2 L.c2 L.o2
  have F3 := ok_law_e_third (n := n + 6) (w := w) CT L.d3 L.c3 L.o3
  have F4 := ok_law_e_fourth (n := n + 6) (w := w) CT L.d4 L.c4 L.o4
  have FR := right_ok T CT gd L.dK L.mK L.dR
  have FB := breaks_ok T CT gd L.dK L.mK L.dB
  have FK := kinds_ok (P := P) (w := w) (base := base) (n := n + 6) T CT L.dK
  have FS := spring_ok (P := P) (w := w) (base := base) (n := n + 6) T fE L.dS
  refine fn_okG D sc_law (fun vs H Q E h => ?_) (fun cdv A outer s H vs Q E hr hgd hcd hh => ?_)
  · obtain ⟨_, _, rfl, _⟩ := h
    rfl
  have hu : (A.deeper (envOfC "law" (defScope sLaw) s.heap.objs.size g cdv)).units + 64 < cLine := hr.units
  obtain ⟨b, ns, rfl, hs, hT, hq⟩ := hh
  refine ⟨_, pss_cons (ps_for (passes_of rfl) rfl (pi_range1 rfl T.f_range (pa_cons pe_int pa_nil)) (pg_name (i := 1) sc_law.nd rfl (Or.inl rfl))
      (pss_cons (ps_set (i := 2) sc_law.nd rfl (Or.inl rfl) (pe_call (x := "_law_spring") FS hr rfl L.mS L.dS.kp bS .nil pass0 (pa_cons (pv 0) (pa_cons (pv 1) pa_nil))))
      (pss_cons (ps_par (i := 3) (j := 4) rfl sc_law.nd rfl rfl (by decide) rfl rfl (pa_cons (pe_call (x := "_law_e_drawn") gd.g__law_e_drawn (hr.mono (by omega)) rfl T.m__law_e_drawn T.d__law_e_drawn.kp T.b__law_e_drawn .nil pass0 (pa_cons (pv 2) pa_nil)) (pa_cons (pe_call (x := "_law_e_drawn") gd.g__law_e_drawn (hr.mono (by omega)) rfl T.m__law_e_drawn T.d__law_e_drawn.kp T.b__law_e_drawn .nil pass0 (pa_cons (pv 2) pa_nil)) pa_nil)) rfl)
      (pss_cons (ps_if (PW.pt (pw_or (pt_not (pt_val (pe_call (x := "_law_e_breaks") FB hr rfl L.mB L.dB.kp bB .nil pass0 (pa_cons (pv 3) (pa_cons (pv 4) pa_nil))))) (pw_or (pt_val (pe_is0 CT hr 37 39 rfl rfl (by decide) (by decide) T.f_isinstance rfl rfl rfl (by decide) (by decide) rfl rfl rfl)) (pw_or1 (pt_val (pe_is0 CT hr 37 40 rfl rfl (by decide) (by decide) T.f_isinstance rfl rfl rfl (by decide) (by decide) rfl rfl rfl)))))) pss_never pss_nil)
      (pss_cons (ps_set (i := 5) sc_law.nd rfl (Or.inl rfl) (pe_op op_cat (pe_op op_cat (pe_op op_cat (pe_callG (x := "_law_e_first") F1 hgd hr rfl L.m1 L.d1.kp b1 .nil pass0 (pa_cons (pv 3) pa_nil)) (pe_callG (x := "_law_e_second") F2 hgd hr rfl L.m2 L.d2.kp b2 .nil pass0 (pa_cons (pv 3) pa_nil))) (pe_callG (x := "_law_e_third") F3 hgd hr rfl L.m3 L.d3.kp b3 .nil pass0 (pa_cons (pv 3) pa_nil))) (pe_callG (x := "_law_e_fourth") F4 hgd hr rfl L.m4 L.d4.kp b4 .nil pass0 (pa_cons (pv 3) (pa_cons (pv 4) pa_nil)))))
      (pss_cons (ps_for (tb := tEnd1 K ca E0) (passes_of rfl) rfl (pi_enum rfl fE (pa_cons (pv 5) pa_nil)) (pg_tup (n := 2) rfl (pgs_cons (pg_name (i := 6) sc_law.nd rfl (Or.inl rfl)) (pgs_cons (pg_name (i := 7) sc_law.nd rfl (Or.inl rfl)) pgs_nil)))
        (pss_cons (ps_if (pt_not (pt_val (pe_call (x := "_law_e_right") FR hr rfl L.mR L.dR.kp bR .nil pass0 (pa_cons (pv 7) (pa_cons (pv 6) pa_nil))))) pss_never pss_nil) pss_nil))
      (pss_cons (ps_set (i := 8) sc_law.nd rfl (Or.inl rfl) (pe_op op_cat (pe_op op_cat (pe_op op_cat (pe_callG (x := "_law_e_first") F1 hgd hr rfl L.m1 L.d1.kp b1 .nil pass0 (pa_cons (pv 4) pa_nil)) (pe_callG (x := "_law_e_second") F2 hgd hr rfl L.m2 L.d2.kp b2 .nil pass0 (pa_cons (pv 4) pa_nil))) (pe_callG (x := "_law_e_third") F3 hgd hr rfl L.m3 L.d3.kp b3 .nil pass0 (pa_cons (pv 4) pa_nil))) (pe_callG (x := "_law_e_fourth") F4 hgd hr rfl L.m4 L.d4.kp b4 .nil pass0 (pa_cons (pv 4) (pa_cons (pv 3) pa_nil)))))
      (pss_one (ps_for (tb := tEnd2 K ca E0 5) (passes_of rfl) rfl (pi_enum rfl fE (pa_cons (pv 8) pa_nil)) (pg_tup (n := 2) rfl (pgs_cons (pg_name (i := 6) sc_law.nd rfl (Or.inl rfl)) (pgs_cons (pg_name (i := 7) sc_law.nd rfl (Or.inl rfl)) pgs_nil)))
        (pss_cons (ps_if (PW.pt (pw_or (pt_not (pt_val (pe_call (x := "_law_e_right") FR hr rfl L.mR L.dR.kp bR .nil pass0 (pa_cons (pv 7) (pa_cons (pv 6) pa_nil))))) (pw_or1 (pt_not (pt_val (pe_call (x := "_law_e_right") FR hr rfl L.mR L.dR.kp bR .nil pass0 (pa_cons (pe_ix ix_seq (pv 5) (pv 6) (by intro _ _; rfl)) (pa_cons (pv 6) pa_nil)))))))) pss_never pss_nil) pss_nil))))))))))
    (pss_cons (ps_set (i := 9) sc_law.nd rfl (Or.inl rfl) pe_int)
    (pss_cons (ps_if (pt_cmpR (op_neD hu) (pe_lc (g := gTup K 2 (gCons (gName 10) (gCons (gName 11) gNil))) (tt := tB (tVar 11)) (te := tVar 10) (own := [("k", 10), ("is_one", 11)]) rfl sc_law.nd (pi_enum rfl fE (pa_cons (pe_call (x := "_law_e_kinds") FK hr rfl L.mK L.dK.kp bK .nil pass0 (pa_cons (pe_ex0 (CT.ok 37 "NothingDone" [] rfl) hr rfl) pa_nil)) pa_nil))
          (blkOk_by (own := [("k", 10), ("is_one", 11)]) (show blkC lawN (defScope (top 68)) _ [("k", 10), ("is_one", 11)] = true from by decide +kernel))
          (fun _ _ _ _ _ => pg_tup (n := 2) rfl (pgs_cons (pg_name (i := 10) sc_law.nd rfl (Or.inl rfl)) (pgs_cons (pg_name (i := 11) sc_law.nd rfl (Or.inl rfl)) pgs_nil))) (fun _ _ _ _ _ => pts_one (pt_val (pv 11))) (fun _ _ _ _ _ => pv 10)) (pe_lst (pa_cons (pv 9) pa_nil)) (nomark _)) pss_never pss_nil)
    (pss_cons (ps_if (pt_cmpR (op_neD hu) (pe_lc (g := gTup K 2 (gCons (gName 10) (gCons (gName 11) gNil))) (tt := tB (tVar 11)) (te := tVar 10) (own := [("k", 10), ("is_one", 11)]) rfl sc_law.nd (pi_enum rfl fE (pa_cons (pe_call (x := "_law_e_kinds") FK hr rfl L.mK L.dK.kp bK .nil pass0 (pa_cons (pe_ex0 (CT.ok 38 "NothingUndone" [] rfl) hr rfl) pa_nil)) pa_nil))
          (blkOk_by (own := [("k", 10), ("is_one", 11)]) (show blkC lawN (defScope (top 68)) _ [("k", 10), ("is_one", 11)] = true from by decide +kernel))
          (fun _ _ _ _ _ => pg_tup (n := 2) rfl (pgs_cons (pg_name (i := 10) sc_law.nd rfl (Or.inl rfl)) (pgs_cons (pg_name (i := 11) sc_law.nd rfl (Or.inl rfl)) pgs_nil))) (fun _ _ _ _ _ => pts_one (pt_val (pv 11))) (fun _ _ _ _ _ => pv 10)) (pe_lst (pa_cons (pe_op op_add (pv 9) pe_int) pa_nil)) (nomark _)) pss_never pss_nil)
    (pss_cons (ps_ret (pe_and (pe_is0M CT hr 37 rfl (by decide) T.f_isinstance rfl rfl rfl (by decide) rfl rfl rfl) (pe_one (pe_is0M CT hr 38 rfl (by decide) T.f_isinstance rfl rfl rfl (by decide) rfl rfl rfl)))) pss_nil)))), ?_⟩
  obtain ⟨_, xc37, _⟩ := CT.xf 37 "NothingDone" [] rfl
  obtain ⟨_, xc38, _⟩ := CT.xf 38 "NothingUndone" [] rfl
  refine ⟨3, rfl, by decide, by decide, fun i m' σ' H' => m' + i = 3 ∧ σ'[0]? = some (some (.ref b)) ∧ σ'.length = 12 ∧ SqL K H' b (ns.map V.int) ∧ Tabs Tb H', ⟨3, rfl, rfl, rfl, hs, hT⟩, fun i m' σ' H' ⟨hm, h0, hl, hs', hT'⟩ => ?_⟩
  by_cases hlt : i < 3
  · refine .inr ⟨hlt, fun σ2 H2 => m' - 1 + (i + 1) = 3 ∧ σ2[0]? = some (some (.ref b)) ∧ σ2.length = 12 ∧ SqL K H2 b (ns.map V.int) ∧ Tabs Tb H2, fun σ2 H2 q => ⟨m' - 1, by omega, q⟩, fun x H2 hy => ?_⟩
    obtain ⟨rfl, rfl⟩ := hy
    have g0 : (σ'.set 1 (some (V.int (0 + (i : Nat)))))[0]? = some (some (.ref b)) := by rw [List.getElem?_set_ne (by decide)]; exact h0
    have gl : (σ'.set 1 (some (V.int (0 + (i : Nat))))).length = 12 := by rw [List.length_set]; exact hl
    refine ⟨.ref b, g0, .int (0 + (i : Nat)), by rw [List.getElem?_set_self (by omega)], b, ns, i, by rw [Int.zero_add]; rfl, hs', fun sx sy H3 p y0 y1 sm hp => ?_⟩
    generalize σ'.set 1 (some (V.int (0 + (i : Nat)))) = τ0 at g0 gl ⊢
    -- the spring at p
    have g2 : (τ0.set 2 (some (V.ref p)))[2]? = some (some (.ref p)) := List.getElem?_set_self (by omega)
    have g0 : (τ0.set 2 (some (V.ref p)))[0]? = some (some (.ref b)) := by rw [List.getElem?_set_ne (by decide)]; exact g0
    have gl : (τ0.set 2 (some (V.ref p))).length = 12 := by rw [List.length_set]; exact gl
    have hs3 : SqL K H3 b (ns.map V.int) := sq_ext hs' (ExtN.of sm)
    have T3 : Tabs Tb (upd H3 p (.lst [.int sx, .int sy, .int 0])) := (hT'.ext sm).ext (same_upd hp)
    have k3 : upd H3 p (.lst [.int sx, .int sy, .int 0]) p = some (.lst [.int sx, .int sy, .int 0]) := upd_same
    have f3 : ∀ c o, H3 c = some o → c ≠ p → upd H3 p (.lst [.int sx, .int sy, .int 0]) c = some o := fun c o h n => by rw [upd_ne n]; exact h
    have hSp : Spr 0 [PyData.int sx, .int sy, .int 0] := ⟨sx, sy, 0, rfl, y0, y1, Nat.le_refl _⟩
    refine ⟨.ref p, g2, drawn1 (E := E0) k3 (.cons (.int _) (.cons (.int _) (.cons (.int _) .nil))) hSp (by decide) fun x H5 ws5 xs5 f5 k5 d5 s5 tx => ?_⟩
    refine ⟨.ref p, g2, drawn1 (E := E0) k5 d5 s5 (by decide) fun y H6 ws6 xs6 f6 k6 d6 s6 ty => ?_⟩
    refine ⟨x, y, rfl, ?_⟩
    have tx := (tx.frm f6).to
    have ty := ty.to
    have hs6 : SqL K H6 b (ns.map V.int) := sq_keep hs3 fun o h _ => by
      have nb : b ≠ p := fun z => by rw [z, hp] at h; cases h
      exact f6 _ _ (f5 _ _ (f3 _ _ h nb) nb) nb
    have T6 : Tabs Tb H6 := tabs_frm (tabs_frm T3 k3 f5) k5 f6
    have g3 : (((τ0.set 2 (some (V.ref p))).set 3 (some x)).set 4 (some y))[3]? = some (some x) := by rw [List.getElem?_set_ne (by decide), List.getElem?_set_self (by omega)]
    have g4 : (((τ0.set 2 (some (V.ref p))).set 3 (some x)).set 4 (some y))[4]? = some (some y) := List.getElem?_set_self (by rw [List.length_set]; omega)
    have g0 : (((τ0.set 2 (some (V.ref p))).set 3 (some x)).set 4 (some y))[0]? = some (some (.ref b)) := by rw [List.getElem?_set_ne (by decide), List.getElem?_set_ne (by decide)]; exact g0
    have gl : (((τ0.set 2 (some (V.ref p))).set 3 (some x)).set 4 (some y)).length = 12 := by rw [List.length_set, List.length_set]; exact gl
    -- those of three words
    refine ⟨x, g3, y, g4, x, y, rfl, tx, ty, fun H7 s7 => ⟨true, rfl, ifF fun H8 s8 => ⟨false, rfl, ifF fun H9 s9 => ⟨false, rfl, ifF ?_⟩⟩⟩⟩
    have s69 : Same H6 H9 := s7.trans (s8.trans s9)
    have e69 := ExtN.of s69
    have hs9 := sq_ext hs6 e69
    have T9 := T6.ext s69
    have tx := tx.ext e69
    have ty := ty.ext e69
    -- found
    refine found_ok (K := K) (E := E0) g3 g4 T9 fun v HA ⟨pf, rs, ev, eA, TA', kA, RA⟩ => ?_
    subst ev
    have tx := tx.ext eA
    have ty := ty.ext eA
    have hsA := sq_ext hs9 eA
    have p5 : ((((τ0.set 2 (some (V.ref p))).set 3 (some x)).set 4 (some y)).set 5 (some (V.ref pf)))[5]? = some (some (.ref pf)) := List.getElem?_set_self (by omega)
    have pn : ∀ j, j ≠ 5 → ((((τ0.set 2 (some (V.ref p))).set 3 (some x)).set 4 (some y)).set 5 (some (V.ref pf)))[j]? = (((τ0.set 2 (some (V.ref p))).set 3 (some x)).set 4 (some y))[j]? := fun j hj => List.getElem?_set_ne (Ne.symm hj)
    have pl : ((((τ0.set 2 (some (V.ref p))).set 3 (some x)).set 4 (some y)).set 5 (some (V.ref pf))).length = 12 := by rw [List.length_set]; exact gl
    refine loop1 (rs := rs) (p := pf) (x := x) (y := y) pl (by decide) p5 kA RA tx ty fun τ2 HB sB jB lB => ?_
    have eB := ExtN.of sB
    have TB := TA'.ext sB
    have RB := RA.ext eB
    have tx := tx.ext eB
    have ty := ty.ext eB
    have hsB := sq_ext hsA eB
    have q3 : τ2[3]? = some (some x) := (jB 3 (by decide) (by decide)).trans ((pn 3 (by decide)).trans g3)
    have q4 : τ2[4]? = some (some y) := (jB 4 (by decide) (by decide)).trans ((pn 4 (by decide)).trans g4)
    have q0 : τ2[0]? = some (some (.ref b)) := (jB 0 (by decide) (by decide)).trans ((pn 0 (by decide)).trans g0)
    have q5 : τ2[5]? = some (some (.ref pf)) := (jB 5 (by decide) (by decide)).trans p5
    -- other
    refine found_ok (K := K) (E := E0) q4 q3 TB fun v HC ⟨po, os, ev, eC, TC, kC, RC⟩ => ?_
    subst ev
    have nl : ∀ (xs : List V) (ps : Array Value), (HO.lst xs) ≠ .tbl ps := fun _ _ z => by cases z
    have tx := tx.ext eC
    have ty := ty.ext eC
    have hsC := sq_ext hsB eC
    have RB := RB.ext eC
    have kB := eC _ _ (sB _ _ kA) (nl _)
    have r8 : (τ2.set 8 (some (V.ref po)))[8]? = some (some (.ref po)) := List.getElem?_set_self (by omega)
    have rn : ∀ j, j ≠ 8 → (τ2.set 8 (some (V.ref po)))[j]? = τ2[j]? := fun j hj => List.getElem?_set_ne (Ne.symm hj)
    refine loop2 (i := 5) (a := 8) (rs := rs) (p := pf) (os := os) (o := po) (x := x) (y := y) (by rw [List.length_set]; exact lB) (by decide) (by decide) ((rn 5 (by decide)).trans q5) kB RB r8 kC RC tx ty fun τ3 HD sD jD lD => ?_
    exact ⟨by omega, (jD 0 (by decide) (by decide)).trans ((rn 0 (by decide)).trans q0), lD, sq_ext hsC (ExtN.of sD), TC.ext sD⟩
  · refine .inl ⟨by show 3 ≤ i; omega, ?_⟩
    have m9 : (σ'.set 9 (some (V.int 37)))[9]? = some (some (.int 37)) := List.getElem?_set_self (by omega)
    have ml : (σ'.set 9 (some (V.int 37))).length = 12 := by rw [List.length_set]; exact hl
    -- the first
    intro e1 he1
    refine ⟨e1, 37, rfl, by decide, ⟨[], none, upd_same, rfl⟩, xc37, fun q hq1 => ⟨q, _, rfl, SqL.of upd_same, ?_⟩⟩
    generalize upd H' e1 (exo e1 (ca 37) none) = H1 at hq1 ⊢
    intro D1 hD1
    obtain ⟨W, w0, hW⟩ := kinds_read (K := K) (E := E0) (σ := σ'.set 9 (some (V.int 37))) (k := 37) (Q := fun v H2 => ∃ D2, v = .ref D2 ∧ H2 D2 = some (.lst [.int 37])) ml (by decide) (upd_same (H := H1) (a := q)) (fun D2 H2 _ h => ⟨D2, rfl, h⟩) D1 hD1
    refine ⟨W, w0, fun n' m' H3 w => (hW n' m' H3 w).imp (fun ⟨st, D2, eD, h2⟩ => ⟨st, ?_⟩) fun z => z⟩
    cases eD
    refine ⟨.int 37, m9, by rw [sizeLine_eq]; exact (by decide : 1 ≤ 16777216), fun q2 hq2 => ?_⟩
    refine ⟨.list [.int 37], .list [.int 37], .lst (SqL.of (same_upd hq2 _ _ h2)) (.cons (.int _) .nil), .lst (SqL.of upd_same) (.cons (.int _) .nil), rfl, rfl, false, by simp [PyData.eqv, PyData.eqvAll], ifF ?_⟩
    generalize upd H3 q2 (.lst [.int 37]) = H4
    -- the other
    intro e2 he2
    refine ⟨e2, 38, rfl, by decide, ⟨[], none, upd_same, rfl⟩, xc38, fun q5 hq5 => ⟨q5, _, rfl, SqL.of upd_same, ?_⟩⟩
    generalize upd H4 e2 (exo e2 (ca 38) none) = H5 at hq5 ⊢
    intro D5 hD5
    obtain ⟨W5, w50, hW5⟩ := kinds_read (K := K) (E := E0) (σ := σ'.set 9 (some (V.int 37))) (k := 38) (Q := fun v H2 => ∃ D2, v = .ref D2 ∧ H2 D2 = some (.lst [.int 38])) ml (by decide) (upd_same (H := H5) (a := q5)) (fun D2 H2 _ h => ⟨D2, rfl, h⟩) D5 hD5
    refine ⟨W5, w50, fun n' m' H6 w => (hW5 n' m' H6 w).imp (fun ⟨st, D6, eD, h6⟩ => ⟨st, ?_⟩) fun z => z⟩
    cases eD
    refine ⟨.int 37, m9, 37, 1, rfl, rfl, by rw [sizeLine_eq]; exact (by decide : 1 ≤ 16777216), fun q6 hq6 => ?_⟩
    refine ⟨.list [.int 38], .list [.int 38], .lst (SqL.of (same_upd hq6 _ _ h6)) (.cons (.int _) .nil), .lst (SqL.of upd_same) (.cons (.int _) .nil), rfl, rfl, false, by simp [PyData.eqv, PyData.eqvAll], ifF ?_⟩
    exact fun H7 _ => ⟨true, rfl, ifT fun H8 _ => hq H8⟩
end
end LW
set_option Elab.async false
set_option linter.all false
set_option maxRecDepth 100000
set_option maxHeartbeats 2000000
/-! EG: the end of a law whose promise wants known guards (FnOkG). -/
namespace Ev
open PySem PySem.Spec PyProof.Rows L2 LamX
open Classical in
/-- what is tracked where the law begins: the script, if K has no literal there; the tables, empty -/
noncomputable def lawH (K : Frag) (a : Addr) (o : Obj) (xs : List V) (ts : List Addr) : Hp := fun b => if b ∈ ts then some (.tbl #[]) else if b = a ∧ K.lookup a = none then some (.frz o (.lst xs)) else none
section
variable {K : Frag} {a : Addr} {o : Obj} {xs : List V} {ts : List Addr}
theorem lawH_t {b : Addr} (h : b ∈ ts) : lawH K a o xs ts b = some (.tbl #[]) := by
  unfold lawH; rw [if_pos h]
theorem lawH_a (h : a ∉ ts) (k : K.lookup a = none) : lawH K a o xs ts a = some (.frz o (.lst xs)) := by
  unfold lawH; rw [if_neg h, if_pos ⟨rfl, k⟩]
theorem lawH_some {b : Addr} {x : HO} (h : lawH K a o xs ts b = some x) : (b ∈ ts ∧ x = .tbl #[]) ∨ (b ∉ ts ∧ b = a ∧ K.lookup a = none ∧ x = .frz o (.lst xs)) := by
  unfold lawH at h
  by_cases t : b ∈ ts
  · rw [if_pos t] at h; cases h; exact .inl ⟨t, rfl⟩
  · rw [if_neg t] at h
    by_cases z : b = a ∧ K.lookup a = none
    · rw [if_pos z] at h; cases h; exact .inr ⟨t, z.1, z.2, rfl⟩
    · rw [if_neg z] at h; cases h
end
theorem law_callG {P : Program} {w : World} {K : Frag} {mg mb : Str → Option Value} {k : Nat} {fa a : Addr} {cs : List (Addr × Addr)} {fd : FuncData} {x : Str} {sp : Sp} {s₁ : Shared} {vs : List Value} {ns : List Int}
    (KX : K.In s₁.heap) (nsg : s₁.heap.Ns mainGlobals mg) (nsb : s₁.heap.Ns builtinsNs mb) (hbb : ∀ x : Str, x ≠ "__name__" → mb x = bootBuiltins x) (hlim : s₁.heap.NoLimit) (hgen : s₁.gens = #[])
    (tab : ∀ p ∈ cs, s₁.heap.get? p.2 = some { cls := .none, data := .fields #[] } ∧ K.lookup p.2 = none ∧ PySem.W.CodeHd s₁.heap p.1 p.2)
    (hbm : ∃ (bm : Addr) (ob : Obj), mg "__builtins__" = some (.ref bm) ∧ bm ≠ builtinsNs ∧ s₁.heap.get? bm = some ob ∧ ob.cls = .type "module" ∧ ob.dict = some builtinsNs ∧ ob.data = .plain)
    (ha : s₁.heap.get? a = some { cls := .type "list", data := .seq vs.toArray }) (hi : IntsAre vs ns) (hl : ns.length ≤ sizeLine) (hr : Room k callerA) (hgd : callerA.guards = some [])
    (Fn : ∀ base : Heap, K.In base → base.Ns mainGlobals mg → (∀ p ∈ cs, TabB base mg p.1 p.2) → FnOkG P w K mg base CX0 k fa fd [x] sp) (hbind : ∀ (s : Shared) (u : Value), BindsTo s fd ⟨[u], []⟩ [(x, u)])
    (hsp : ∀ H : Hp, (∀ p ∈ cs, H p.2 = some (.tbl #[])) → SqL K H a (ns.map V.int) → sp [.ref a] H (fun v _ => v = .bl true) fun _ _ _ => False) :
    codeAny (model P w) callerA (.call (.ref fa) ⟨[.ref a], []⟩) (fun r s' => r = .ok (.ret (.bool true)) ∧ OldK s₁.heap s'.heap ∧ s'.os = s₁.os ∧ AllBare s'.gens) s₁ := by
  have rv := vals_ints hi
  have lv := hi.length
  have tabO : ∀ b ∈ cs.map (·.2), s₁.heap.get? b = some { cls := .none, data := .fields #[] } := fun b hb => by
    obtain ⟨p, hp, rfl⟩ := List.mem_map.mp hb
    exact (tab p hp).1
  have inT : ∀ p ∈ cs, p.2 ∈ cs.map (·.2) := fun p hp => List.mem_map_of_mem hp
  have aT : a ∉ cs.map (·.2) := fun z => by
    have := tabO a z
    rw [ha] at this
    injection this with e
    injection e with _ _ e
    cases e
  let H := lawH K a { cls := .type "list", data := .seq vs.toArray } (ns.map V.int) (cs.map (·.2))
  have Ht : ∀ p ∈ cs, H p.2 = some (.tbl #[]) := fun p hp => lawH_t (inT p hp)
  have Hs : SqL K H a (ns.map V.int) := by
    cases q : K.lookup a with
    | none => exact .inl (.inr ⟨_, lawH_a aT q⟩)
    | some o =>
      have e := KX a o q
      rw [ha] at e
      cases e
      exact .inr ⟨_, vs.toArray, _, q, rfl, rfl, rfl, by rw [List.size_toArray, lv]; exact hl, by simpa using rv⟩
  have Hok : HOk P w H s₁.heap := fun b u hu => by
    rcases lawH_some hu with ⟨t, rfl⟩ | ⟨_, rfl, _, rfl⟩
    · exact tabO b t
    · exact ⟨ha, by rw [List.length_map]; exact hl, vs, _, rv, ha⟩
  -- what is neither a list nor a table of code objects is not tracked
  have free : ∀ {b : Addr} {o : Obj}, s₁.heap.get? b = some o → (∀ us n, o.data ≠ .seq us n) → o.data ≠ .fields #[] → H b = none := fun {b o} e n1 n2 => by
    cases q : H b with
    | none => rfl
    | some u =>
      exfalso
      rcases lawH_some q with ⟨t, _⟩ | ⟨_, z, _, _⟩
      · rw [tabO b t] at e; cases e; exact n2 rfl
      · rw [z, ha] at e; cases e; exact n1 _ _ rfl
  have base_of : ∀ {b : Addr} {o : Obj}, s₁.heap.get? b = some o → (∀ us n, o.data ≠ .seq us n) → o.data ≠ .fields #[] → (hidT s₁.heap H).get? b = some o := fun e n1 n2 => hidT_get e (free e n1 n2)
  have nsK : ∀ {b : Addr} {m : Str → Option Value}, s₁.heap.Ns b m → (hidT s₁.heap H).Ns b m := fun {b m} ⟨o, es, ep, e, d, r⟩ =>
    ⟨o, es, ep, base_of e (fun us n z => by rw [d] at z; cases z) (fun z => by rw [d] at z; cases z), d, r⟩
  have hKb : K.In (hidT s₁.heap H) := fun b o e => hidT_get (KX b o e) (by
    cases q : H b with
    | none => rfl
    | some u =>
      exfalso
      rcases lawH_some q with ⟨t, _⟩ | ⟨_, z, k0, _⟩
      · obtain ⟨p, hp, rfl⟩ := List.mem_map.mp t
        rw [(tab p hp).2.1] at e; cases e
      · rw [z, k0] at e; cases e)
  have TB : ∀ p ∈ cs, TabB (hidT s₁.heap H) mg p.1 p.2 := fun p hp => by
    obtain ⟨t1, t2, t3⟩ := tab p hp
    refine ⟨?_, ?_, fun z => ?_⟩
    · obtain ⟨o, us, file, tf, fl, tg, i9, tx, tt, c1, c2, c3, c4, c5, c6, c7, c8, c9, c10⟩ := t3
      refine ⟨o, us, file, tf, fl, tg, i9, tx, tt, base_of c1 (fun us n z => by rw [c3] at z; cases z) (fun z => ?_), c2, c3, c4, c5, c6, c7, c8, c9, c10⟩
      rw [c3] at z
      cases z
      simp at c4
    · obtain ⟨bm, ob, g1, g2, g3, g4, g5, g6⟩ := hbm
      have dG : bm ≠ mainGlobals := fun q => by
        obtain ⟨o, es, ep, e, d, _⟩ := nsg
        rw [q, e] at g3; cases g3
        rw [g6] at d; cases d
      have dP : bm ≠ p.2 := fun q => by
        rw [q, t1] at g3; cases g3
        cases g6
      exact ⟨bm, ob, g1, g2, dG, dP, base_of g3 (fun us n z => by rw [g6] at z; cases z) (fun z => by rw [g6] at z; cases z), g4, g5, g6⟩
    · obtain ⟨o, es, ep, e, d, _⟩ := nsg
      rw [z, t1] at e; cases e; cases d
  have e0 : Env0 P w K mg (hidT s₁.heap H) callerA [] s₁ H := by
    refine ⟨rfl, ⟨hKb, nsK nsg, ⟨mb, nsK nsb, hbb⟩, ?_⟩, fun b o e => of_hidT e, Nat.le_of_eq (hidT_size _ _), trivial, fun b hb => ?_, Hok, .of_eq hgen⟩
    · obtain ⟨mc, n1, n2⟩ := hlim
      exact ⟨mc, nsK n1, n2⟩
    · have hb : b ∈ ([] : List Addr) := hb
      cases hb
  refine codeAny_mono ((Fn _ hKb (nsK nsg) TB).run callerA [] s₁ H ⟨[.ref a], []⟩ [.ref a] [.ref a] _ _ hr hgd e0 (hbind s₁ (.ref a)) (.cons rfl .nil) (hsp H Ht Hs)) fun r s' q => ?_
  match r, q with
  | .error e, q => exact False.elim q
  | .ok .next, q => exact False.elim q
  | .ok .brk, q => exact False.elim q
  | .ok .cont, q => exact False.elim q
  | .ok (.ret u), q =>
    obtain ⟨v, H', os, bare, un, hok', r', qv⟩ := q
    have qv : v = .bl true := qv
    subst qv
    obtain rfl : u = Value.bool true := r'
    -- all but the tables stays as it was
    have stay : ∀ b o, b ∉ cs.map (·.2) → s₁.heap.get? b = some o → s'.heap.get? b = some o := fun b o nb e => by
      cases q : H b with
      | none => exact un.keep b o e q (fun z => by have z : b ∈ ([] : List Addr) := z; cases z) (by simp)
      | some u =>
        rcases lawH_some q with ⟨t, _⟩ | ⟨_, _, _, rfl⟩
        · exact absurd t nb
        · obtain ⟨g1, _⟩ := Hok b _ q
          obtain ⟨g2, _⟩ := hok' b _ (un.frzs b _ _ q)
          rw [e] at g1; cases g1
          exact g2
    have grown : ∀ p ∈ cs, ∃ more : Array Value, s'.heap.get? p.2 = some { cls := .none, data := .fields more } := fun p hp => by
      obtain ⟨more, z⟩ := un.tbls p.2 #[] (Ht p hp)
      exact ⟨_, hok' p.2 _ z⟩
    refine ⟨rfl, ⟨fun b o e => ?_, fun b o e => ?_⟩, os, bare⟩ <;> by_cases hb : b ∈ cs.map (·.2)
    · obtain ⟨p, hp, rfl⟩ := List.mem_map.mp hb
      obtain ⟨more, hm⟩ := grown p hp
      have t1 := (tab p hp).1
      rw [t1] at e
      cases e
      exact .inr (.inl ⟨((tab p hp).2.2.tab t1).isCodeTable, rfl, #[], more, rfl, by rw [Array.empty_append]; exact hm⟩)
    · exact .inl (stay b o hb e)
    · obtain ⟨p, hp, rfl⟩ := List.mem_map.mp hb
      obtain ⟨more, hm⟩ := grown p hp
      exact ⟨_, hm⟩
    · exact ⟨o, stay b o hb e⟩
end Ev
namespace Ev
open PySem PySem.Spec PyProof.Rows L2 LamX
/-- the walk of such a law -/
theorem walk_ofG {l : PySem.W.OpenLaw} {n k : Nat} {q : Program} {loose : List Str} {XP : (Str → Option Value) → Heap → Prop} {YP : World → Heap → Prop} {d : DefRec} {x : Str} (hn : l.most = some n) (hn2 : n ≤ sizeLine) (hdf : d.params.defaults = []) (hr : Room k callerA)
    (F : ∀ (w : World) (mg : Str → Option Value) (fa : Addr) (h : Heap), YP w h → h.Ns mainGlobals mg → mg d.name = some (.ref fa) → ∃ (K : Frag) (fd : FuncData) (cs : List (Addr × Addr)) (sp : Sp), K.In h ∧ (∀ p ∈ cs, h.get? p.2 = some { cls := .none, data := .fields #[] } ∧ K.lookup p.2 = none ∧ PySem.W.CodeHd h p.1 p.2) ∧
      (∀ (s : Shared) (u : Value), BindsTo s fd ⟨[u], []⟩ [(x, u)]) ∧ (∀ (H : Hp) (a : Addr) (ns : List Int), (∀ p ∈ cs, H p.2 = some (.tbl #[])) → SqL K H a (ns.map V.int) → sp [.ref a] H (fun v _ => v = .bl true) fun _ _ _ => False) ∧
      ∀ base : Heap, K.In base → base.Ns mainGlobals mg → (∀ p ∈ cs, TabB base mg p.1 p.2) → FnOkG l.prog w K mg base CX0 k fa fd [x] sp) :
    PySem.W.WalkO q loose XP YP l.row.toRowW d [] (fun f vs => PySem.call f vs) := by
  refine Att.attach_callB hn hdf fun w s₀ s₁ mg mb fa o pm cd doc a vs ns G Y ho hd hcd hmg hobj hints hlen hbits hg => ?_
  obtain ⟨K, fd, cs, sp, KX, tab, hb, hsp, hF⟩ := F w mg fa _ Y G.T.g hmg
  exact law_callG KX G.T.g G.T.b G.T.builtins G.T.nolimit hg tab G.T.bmain hobj hints (Nat.le_trans hlen hn2) hr rfl hF hb fun H hH hS => hsp H a ns hH hS
end Ev
set_option Elab.async false
set_option linter.all false
set_option maxRecDepth 100000
set_option maxHeartbeats 2000000
/-! H1: what the head tells of classes whose __init__ calls super's (from k01 V23). -/
namespace HeY
open PySem PySem.Spec PyProof.Rows L2 He SupX
def clsB (K : PySem.W.Frag) (C : Addr) : Bool := match K.lookup C with
  | some ⟨.type t, _, .cls cd, sl⟩ => (match cd.mro, sl.toList with
    | .ref C' :: bm, [_, _, _, _, some (.builtin n), _] => decide (t = "type") && (decide (C' = C) && (decide (n = "ValueError.__new__") && (!cd.hasDel && (cd.hasDict && PySem.HandSPX.refsVE bm))))
    | _, _ => false)
  | _ => false
theorem clsB_ok {K : PySem.W.Frag} {C : Addr} (h : clsB K C = true) : ∃ nm q N bs bm sn sub ab col dd k0 k1 k2 k3 k5, K.lookup C = some (excClassObj nm q C N bs bm true sn sub ab col dd k0 k1 k2 k3 k5 "ValueError.__new__") ∧ PySem.HandSPX.refsVE bm = true := by
  unfold clsB at h
  split at h
  · rename_i t dd cd sl ho
    split at h
    · rename_i C' bm k0 k1 k2 k3 n k5 hm hs
      simp only [Bool.and_eq_true, decide_eq_true_eq, Bool.not_eq_true'] at h
      obtain ⟨rfl, rfl, rfl, hdel, hdct, hr⟩ := h
      obtain ⟨nm, bs, mro, ns, qn, hd, sn, sub, ab, col, del⟩ := cd
      dsimp only at hm hdel hdct
      subst hm hdel hdct
      have e : sl = #[k0, k1, k2, k3, some (.builtin "ValueError.__new__"), k5] := by
        obtain ⟨l⟩ := sl
        simp only at hs
        rw [hs]
      subst e
      exact ⟨nm, qn, ns, bs, bm, sn, sub, ab, col, dd, k0, k1, k2, k3, k5, ho, hr⟩
    · cases h
  · cases h
abbrev FnI : Type := Option (Str × Str × Arguments × FuncBody × Scope × Addr × Addr)
def initAt (K : PySem.W.Frag) (cn : Str) : Addr := ma K (ga K cn) "__init__"
def fnI (K : PySem.W.Frag) (cn : Str) : FnI := match K.lookup (initAt K cn) with
  | some ⟨_, _, .func fd, _⟩ => some (fd.name, fd.qualname, fd.params, fd.body, fd.scope, fd.globals, fd.builtins)
  | _ => none
def fnB (P : Program) (K : PySem.W.Frag) (cn qual : Str) : Bool := match K.lookup (initAt K cn) with
  | some ⟨_, _, .func fd, _⟩ => decide (fd.defaults = .none) && (decide (fd.kwdefaults = .none) && (PySem.W.codeIn K fd.code qual && ((match fd.closure with
      | [(x, cc)] => decide (x = ("__class__" : Str)) && (match K.lookup cc with
        | some ⟨_, _, .cell (some v), _⟩ => decide (v = .ref (ga K cn))
        | _ => false)
      | _ => false) && (match fd.code with
      | .ref cda => (match K.lookup cda with
        | some ⟨_, _, .fields vs, _⟩ => (match (vs[2]? : Option Value) with
          | some (.str file _) => (P.main.file : Str) == file
          | _ => false)
        | _ => false)
      | _ => false))))
  | _ => false
/-- the class cn, its mro [cn, m, ValueError, ..] -/
def supBN (P : Program) (K : PySem.W.Frag) (m cn qual : Str) (fs : List Str) : Bool := clsB K (ga K cn) && (fnB P K cn qual && (decide (PySem.W.findIn K (.ref (ga K cn)) "__setattr__" = some (some (.builtin "object.__setattr__"))) && ((fs.all fun f => decide (PySem.W.findIn K (.ref (ga K cn)) f = some none)) && (decide (PySem.W.ks_superIn K (ga K cn) (ga K cn) "__init__" = some (some (.builtin "ValueError.__init__"))) &&
  (decide (PySem.W.subIn K (.ref (ga K cn)) (.ref (ga K cn)) = some true) && (decide (PySem.W.subIn K (.ref (ga K cn)) (.type "ValueError") = some true) && (decide (PySem.W.nsIn K mainGlobals cn = some (some (.ref (ga K cn)))) &&
  (decide (PySem.W.findIn K (.ref (ga K cn)) "__init__" = some (some (.ref (initAt K cn)))) && (decide (PySem.W.typeIn K (.ref (initAt K cn)) = some (.type "function")) && (PySem.W.keepIn K (.ref (ga K cn)) && (decide ((PySem.W.clsIn K (ga K cn)).map (·.mro) = some (.ref (ga K cn) :: .ref (ga K m) :: veBase)) && decide (PySem.W.typeIn K (.ref (ga K cn)) = some (.type "type")))))))))))))
def excB (K : PySem.W.Frag) (D : Addr) : Bool := xfB K D && (decide (PySem.W.findIn K (.ref D) "__class__" = some (some (.builtin "object.__class__"))) && (decide (PySem.W.specialIn K (.builtin "object.__class__") "__get__" = some (some (.builtin "getset_descriptor.__get__"))) && (decide (PySem.W.takesIn K (.builtin "object.__class__") = some true) && decide (PySem.W.mroIn K D (.type "object") = some true))))
theorem excB_ok {K : PySem.W.Frag} {D : Addr} (h : excB K D = true) : XfC K D ∧ ExcC K D := by
  unfold excB at h
  simp only [Bool.and_eq_true, decide_eq_true_eq] at h
  obtain ⟨h1, h2, h3, h4, h5⟩ := h
  have x := xfB_ok h1
  exact ⟨x, ⟨x.ga, x.gg, x.exC, x.hdC, h2, h3, h4, h5⟩⟩
/-- what stands for all -/
def allB (K : PySem.W.Frag) : Bool := decide (PySem.W.nsIn K cStatics "thirdparty.any" = some none) && decide (PySem.W.nsIn K mainGlobals "super" = some none)
theorem supClsN_of {P : Program} {K : PySem.W.Frag} {mg : Str → Option Value} {m cn qual : Str} {fs : List Str} {params : Arguments} {body : List Stmt} {scope : Scope} (ha : allB K = true) (hb : supBN P K m cn qual fs = true) (hi : fnI K cn = some (("__init__" : Str), qual, params, .stmts body, scope, mainGlobals, builtinsNs)) (hs : SupSN params scope fs) (ini : IsInitN body fs) (few : fs.length ≤ 100) (hg : mg cn = some (.ref (ga K cn))) (ht : (P.main.scope.names.lookup ("super" : Str)).isSome = false) :
    ∃ fI cda cc, ClsN P K mg cn (ga K cn) fI cda cc qual params body scope fs := by
  unfold supBN at hb
  unfold allB at ha
  simp only [Bool.and_eq_true, decide_eq_true_eq, List.all_eq_true] at hb ha
  obtain ⟨h8, h9⟩ := ha
  obtain ⟨h1, h2, h3, h4, h5, h6, h7, hg2, h10, h11, h12, h13, h14⟩ := hb
  unfold fnB at h2
  unfold fnI at hi
  split at h2
  · rename_i oc od fd osl ho
    rw [ho] at hi
    obtain ⟨n1, n2, n3, n4, n5, n6, n7, n8, n9, n10, n11, n12, n13, n14, n15⟩ := fd
    dsimp only at hi h2
    simp only [Option.some.injEq, Prod.mk.injEq] at hi
    obtain ⟨rfl, rfl, rfl, rfl, rfl, rfl, rfl⟩ := hi
    simp only [Bool.and_eq_true, decide_eq_true_eq] at h2
    obtain ⟨rfl, rfl, hcd, hcl, hco⟩ := h2
    split at hcl
    · rename_i x cc
      simp only [Bool.and_eq_true, decide_eq_true_eq] at hcl
      obtain ⟨rfl, hcell⟩ := hcl
      split at hcell
      · rename_i c1 c2 v c4 hcc
        have hv := of_decide_eq_true hcell
        subst hv
        split at hco
        · rename_i cda
          split at hco
          · rename_i d1 d2 vs d4 hcda
            split at hco
            · rename_i file tf hvs
              exact ⟨initAt K cn, cda, cc, ⟨clsB_ok h1, h3, h4, h5, h6, h7, h8, ⟨oc, od, n10, n11, n12, n14, osl, ho⟩, ⟨d1, d2, vs, d4, file, tf, hcda, hvs, hco⟩, hcd, ⟨c1, c2, c4, hcc⟩, h9, ht⟩, hs, h10, h11, h12, hg, ini, few⟩
            · cases hco
          · cases hco
        · cases hco
      · cases hcell
    · cases hcl
  · cases h2
/-- what stands at a, named there -/
def refsC (g : Addr → Option Obj) (a : Addr) : List Addr := match g a with
  | some ⟨_, _, .cls cd, _⟩ => cd.ns :: (match g cd.ns with
    | some o => (refsO o).flatMap fun f => f :: (match g f with
      | some o => refsD o
      | none => [])
    | none => [])
  | some o => refsD o
  | none => []
/-- the module's names, the classes' defs, their code -/
def asC (g : Addr → Option Obj) : List Addr := mainGlobals :: cStatics :: (match g mainGlobals with
  | some o => (refsO o).flatMap fun a => a :: refsC g a
  | none => [])
def frY (g : Addr → Option Obj) (n : Nat) : PySem.W.Frag := frT g (asC g)
abbrev AlY : Type := AlD × Bool × List FnI
def obsY (n : Nat) (fa : List Fa) (fn : List DefD) (tf : List Defn) (ex : PySem.W.Frag → Bool) (ini : List (Str × FnI)) (g : Addr → Option Obj) : AlY := (obsD fa fn (frY g n), ex (frY g n) && tabsB g tf (frY g n), ini.map fun p => fnI (frY g n) p.1)
def valY (fn : List DefD) (ini : List (Str × FnI)) : AlY := (valD fn, true, ini.map fun p => p.2)
structure SaysY (fa : List Fa) (fn : List DefD) (tf : List Defn) (ex : PySem.W.Frag → Bool) (ini : List (Str × FnI)) (h : Heap) (K : PySem.W.Frag) : Prop where
  d : SaysD fa fn K
  more : ex K = true
  tab : ∀ p ∈ tf, PySem.W.codeHdIn K (cT K p).1 (cT K p).2 = true ∧ K.lookup (cT K p).2 = none ∧ h.get? (cT K p).2 = some { cls := .none, data := .fields #[] }
  ini : ∀ p ∈ ini, fnI K p.1 = p.2
theorem saysY_of {n : Nat} {fa : List Fa} {fn : List DefD} {tf : List Defn} {ex : PySem.W.Frag → Bool} {ini : List (Str × FnI)} {h : Heap} (e : obsY n fa fn tf ex ini h.get? = valY fn ini) : SaysY fa fn tf ex ini h (frY h.get? n) := by
  obtain ⟨e1, e2⟩ := Prod.mk.inj e
  obtain ⟨e2, e3⟩ := Prod.mk.inj e2
  obtain ⟨h1, h2⟩ := ba e2
  refine ⟨e1, h1, fun p hp => ?_, fun p hp => List.map_inj_left.mp e3 p hp⟩
  obtain ⟨h3, h4⟩ := ba (List.all_eq_true.mp h2 p hp)
  cases q : h.get? (cT (frY h.get? n) p).2 with
  | none => rw [q] at h4; cases h4
  | some o =>
    rw [q] at h4
    exact ⟨h3, frT_none q h4, congrArg some (emptyTab_eq h4)⟩
def hookY (n : Nat) (fa : List Fa) (fn : List DefD) (tf : List Defn) (ex : PySem.W.Frag → Bool) (ini : List (Str × FnI)) : PySem.W.Hook where
  α := AlY
  obs := fun s => obsY n fa fn tf ex ini s.heap.get?
  val := fun _ => valY fn ini
  says := fun _ h => ∃ K : PySem.W.Frag, K.In h ∧ SaysY fa fn tf ex ini h K
  of := fun _ _ e => ⟨_, frT_in, saysY_of e⟩
  keeps := fun _ _ _ ⟨K, hK, c⟩ k => ⟨K, PySem.W.Frag.In.keeps hK k, ⟨c.d, c.more, fun p hp => ⟨(c.tab p hp).1, (c.tab p hp).2.1, k _ _ (c.tab p hp).2.2⟩, c.ini⟩⟩
theorem obsY_eq {n : Nat} {fa : List Fa} {fn : List DefD} {tf : List Defn} {ex : PySem.W.Frag → Bool} {ini : List (Str × FnI)} {g : Addr → Option Obj} {s : Shared} (h : ∀ a, g a = s.heap.get? a) : obsY n fa fn tf ex ini g = (hookY n fa fn tf ex ini).obs s := by
  have e : g = s.heap.get? := funext h
  rw [e]
  rfl
/-- the function at f -/
def fdOf (K : PySem.W.Frag) (f : Addr) : FuncData := match K.lookup f with
  | some ⟨_, _, .func fd, _⟩ => fd
  | _ => default
theorem funD_at {K : PySem.W.Frag} {x q : Str} {p : Arguments} {b : List Stmt} {sc : Scope} {dvs : List V} {kws : List (Str × V)} {f : Addr} (h : ∃ fd, FunD K x q p b sc dvs kws f fd) : FunD K x q p b sc dvs kws f (fdOf K f) := by
  obtain ⟨fd, F⟩ := h
  have e : fdOf K f = fd := by
    obtain ⟨oc, od, dV, kV, doc, pm, an, cdv, ct, osl, _, lk, _⟩ := F.ex
    unfold fdOf
    rw [lk]
  rw [e]
  exact F
end HeY
set_option Elab.async false
set_option linter.all false
set_option maxRecDepth 100000
set_option maxHeartbeats 0
/-! H2, printed by genH.py: the classes' __init__ -/
namespace LW
open PySem PySem.Spec PyProof.Rows L2 RT RZ Ev SupX He HeY
def clsInit : Stmt → Stmt
  | .ClassDef (body := b) .. => b.getD 0 (.Pass ⟨0, 0, 0, 0⟩)
  | _ => .Pass ⟨0, 0, 0, 0⟩
abbrev i_BadQuestion : Stmt := clsInit (top 13)
theorem ini_BadQuestion : IsInitN (defBody i_BadQuestion) ["question"] := ⟨_, _, _, _, _, _, _, _, [⟨"question", _, _, _, _⟩], _, rfl, rfl, fun env => rfl⟩
theorem ss_BadQuestion : SupSN (defArgs i_BadQuestion) (defScope i_BadQuestion) ["question"] := ⟨rfl, rfl, rfl, by decide +kernel, by decide +kernel, rfl, rfl, rfl, ⟨_, rfl, rfl⟩, by decide +kernel, by decide +kernel⟩
theorem bp_BadQuestion : ∀ vs : List Value, vs.length = 1 → BindsI (defArgs i_BadQuestion) (defBody i_BadQuestion) (defScope i_BadQuestion) ["question"] vs [] vs := fun vs h => match vs, h with | [v0], _ => fun _ _ _ _ _ _ _ _ => rfl
theorem bk_BadQuestion : ∀ ws : List Value, ws.length = 1 → BindsI (defArgs i_BadQuestion) (defBody i_BadQuestion) (defScope i_BadQuestion) ["question"] [] ((["question"] : List Str).zip ws) (permU [0] ws) := fun vs h => match vs, h with | [v0], _ => fun _ _ _ _ _ _ _ _ => rfl
abbrev i_BadCode : Stmt := clsInit (top 15)
theorem ini_BadCode : IsInitN (defBody i_BadCode) ["code"] := ⟨_, _, _, _, _, _, _, _, [⟨"code", _, _, _, _⟩], _, rfl, rfl, fun env => rfl⟩
theorem ss_BadCode : SupSN (defArgs i_BadCode) (defScope i_BadCode) ["code"] := ⟨rfl, rfl, rfl, by decide +kernel, by decide +kernel, rfl, rfl, rfl, ⟨_, rfl, rfl⟩, by decide +kernel, by decide +kernel⟩
theorem bp_BadCode : ∀ vs : List Value, vs.length = 1 → BindsI (defArgs i_BadCode) (defBody i_BadCode) (defScope i_BadCode) ["code"] vs [] vs := fun vs h => match vs, h with | [v0], _ => fun _ _ _ _ _ _ _ _ => rfl
theorem bk_BadCode : ∀ ws : List Value, ws.length = 1 → BindsI (defArgs i_BadCode) (defBody i_BadCode) (defScope i_BadCode) ["code"] [] ((["code"] : List Str).zip ws) (permU [0] ws) := fun vs h => match vs, h with | [v0], _ => fun _ _ _ _ _ _ _ _ => rfl
abbrev i_Unrun : Stmt := clsInit (top 16)
theorem ini_Unrun : IsInitN (defBody i_Unrun) ["index"] := ⟨_, _, _, _, _, _, _, _, [⟨"index", _, _, _, _⟩], _, rfl, rfl, fun env => rfl⟩
theorem ss_Unrun : SupSN (defArgs i_Unrun) (defScope i_Unrun) ["index"] := ⟨rfl, rfl, rfl, by decide +kernel, by decide +kernel, rfl, rfl, rfl, ⟨_, rfl, rfl⟩, by decide +kernel, by decide +kernel⟩
theorem bp_Unrun : ∀ vs : List Value, vs.length = 1 → BindsI (defArgs i_Unrun) (defBody i_Unrun) (defScope i_Unrun) ["index"] vs [] vs := fun vs h => match vs, h with | [v0], _ => fun _ _ _ _ _ _ _ _ => rfl
theorem bk_Unrun : ∀ ws : List Value, ws.length = 1 → BindsI (defArgs i_Unrun) (defBody i_Unrun) (defScope i_Unrun) ["index"] [] ((["index"] : List Str).zip ws) (permU [0] ws) := fun vs h => match vs, h with | [v0], _ => fun _ _ _ _ _ _ _ _ => rfl
abbrev i_BadRatio : Stmt := clsInit (top 2)
theorem ini_BadRatio : IsInitN (defBody i_BadRatio) ["ratio"] := ⟨_, _, _, _, _, _, _, _, [⟨"ratio", _, _, _, _⟩], _, rfl, rfl, fun env => rfl⟩
theorem ss_BadRatio : SupSN (defArgs i_BadRatio) (defScope i_BadRatio) ["ratio"] := ⟨rfl, rfl, rfl, by decide +kernel, by decide +kernel, rfl, rfl, rfl, ⟨_, rfl, rfl⟩, by decide +kernel, by decide +kernel⟩
theorem bp_BadRatio : ∀ vs : List Value, vs.length = 1 → BindsI (defArgs i_BadRatio) (defBody i_BadRatio) (defScope i_BadRatio) ["ratio"] vs [] vs := fun vs h => match vs, h with | [v0], _ => fun _ _ _ _ _ _ _ _ => rfl
theorem bk_BadRatio : ∀ ws : List Value, ws.length = 1 → BindsI (defArgs i_BadRatio) (defBody i_BadRatio) (defScope i_BadRatio) ["ratio"] [] ((["ratio"] : List Str).zip ws) (permU [0] ws) := fun vs h => match vs, h with | [v0], _ => fun _ _ _ _ _ _ _ _ => rfl
abbrev i_Nought : Stmt := clsInit (top 3)
theorem ini_Nought : IsInitN (defBody i_Nought) ["ratio"] := ⟨_, _, _, _, _, _, _, _, [⟨"ratio", _, _, _, _⟩], _, rfl, rfl, fun env => rfl⟩
theorem ss_Nought : SupSN (defArgs i_Nought) (defScope i_Nought) ["ratio"] := ⟨rfl, rfl, rfl, by decide +kernel, by decide +kernel, rfl, rfl, rfl, ⟨_, rfl, rfl⟩, by decide +kernel, by decide +kernel⟩
theorem bp_Nought : ∀ vs : List Value, vs.length = 1 → BindsI (defArgs i_Nought) (defBody i_Nought) (defScope i_Nought) ["ratio"] vs [] vs := fun vs h => match vs, h with | [v0], _ => fun _ _ _ _ _ _ _ _ => rfl
theorem bk_Nought : ∀ ws : List Value, ws.length = 1 → BindsI (defArgs i_Nought) (defBody i_Nought) (defScope i_Nought) ["ratio"] [] ((["ratio"] : List Str).zip ws) (permU [0] ws) := fun vs h => match vs, h with | [v0], _ => fun _ _ _ _ _ _ _ _ => rfl
abbrev i_BadPoly : Stmt := clsInit (top 4)
theorem ini_BadPoly : IsInitN (defBody i_BadPoly) ["poly"] := ⟨_, _, _, _, _, _, _, _, [⟨"poly", _, _, _, _⟩], _, rfl, rfl, fun env => rfl⟩
theorem ss_BadPoly : SupSN (defArgs i_BadPoly) (defScope i_BadPoly) ["poly"] := ⟨rfl, rfl, rfl, by decide +kernel, by decide +kernel, rfl, rfl, rfl, ⟨_, rfl, rfl⟩, by decide +kernel, by decide +kernel⟩
theorem bp_BadPoly : ∀ vs : List Value, vs.length = 1 → BindsI (defArgs i_BadPoly) (defBody i_BadPoly) (defScope i_BadPoly) ["poly"] vs [] vs := fun vs h => match vs, h with | [v0], _ => fun _ _ _ _ _ _ _ _ => rfl
theorem bk_BadPoly : ∀ ws : List Value, ws.length = 1 → BindsI (defArgs i_BadPoly) (defBody i_BadPoly) (defScope i_BadPoly) ["poly"] [] ((["poly"] : List Str).zip ws) (permU [0] ws) := fun vs h => match vs, h with | [v0], _ => fun _ _ _ _ _ _ _ _ => rfl
abbrev i_BadTree : Stmt := clsInit (top 5)
theorem ini_BadTree : IsInitN (defBody i_BadTree) ["tree"] := ⟨_, _, _, _, _, _, _, _, [⟨"tree", _, _, _, _⟩], _, rfl, rfl, fun env => rfl⟩
theorem ss_BadTree : SupSN (defArgs i_BadTree) (defScope i_BadTree) ["tree"] := ⟨rfl, rfl, rfl, by decide +kernel, by decide +kernel, rfl, rfl, rfl, ⟨_, rfl, rfl⟩, by decide +kernel, by decide +kernel⟩
theorem bp_BadTree : ∀ vs : List Value, vs.length = 1 → BindsI (defArgs i_BadTree) (defBody i_BadTree) (defScope i_BadTree) ["tree"] vs [] vs := fun vs h => match vs, h with | [v0], _ => fun _ _ _ _ _ _ _ _ => rfl
theorem bk_BadTree : ∀ ws : List Value, ws.length = 1 → BindsI (defArgs i_BadTree) (defBody i_BadTree) (defScope i_BadTree) ["tree"] [] ((["tree"] : List Str).zip ws) (permU [0] ws) := fun vs h => match vs, h with | [v0], _ => fun _ _ _ _ _ _ _ _ => rfl
abbrev i_BadPath : Stmt := clsInit (top 6)
theorem ini_BadPath : IsInitN (defBody i_BadPath) ["path"] := ⟨_, _, _, _, _, _, _, _, [⟨"path", _, _, _, _⟩], _, rfl, rfl, fun env => rfl⟩
theorem ss_BadPath : SupSN (defArgs i_BadPath) (defScope i_BadPath) ["path"] := ⟨rfl, rfl, rfl, by decide +kernel, by decide +kernel, rfl, rfl, rfl, ⟨_, rfl, rfl⟩, by decide +kernel, by decide +kernel⟩
theorem bp_BadPath : ∀ vs : List Value, vs.length = 1 → BindsI (defArgs i_BadPath) (defBody i_BadPath) (defScope i_BadPath) ["path"] vs [] vs := fun vs h => match vs, h with | [v0], _ => fun _ _ _ _ _ _ _ _ => rfl
theorem bk_BadPath : ∀ ws : List Value, ws.length = 1 → BindsI (defArgs i_BadPath) (defBody i_BadPath) (defScope i_BadPath) ["path"] [] ((["path"] : List Str).zip ws) (permU [0] ws) := fun vs h => match vs, h with | [v0], _ => fun _ _ _ _ _ _ _ _ => rfl
abbrev i_BadBook : Stmt := clsInit (top 7)
theorem ini_BadBook : IsInitN (defBody i_BadBook) ["book"] := ⟨_, _, _, _, _, _, _, _, [⟨"book", _, _, _, _⟩], _, rfl, rfl, fun env => rfl⟩
theorem ss_BadBook : SupSN (defArgs i_BadBook) (defScope i_BadBook) ["book"] := ⟨rfl, rfl, rfl, by decide +kernel, by decide +kernel, rfl, rfl, rfl, ⟨_, rfl, rfl⟩, by decide +kernel, by decide +kernel⟩
theorem bp_BadBook : ∀ vs : List Value, vs.length = 1 → BindsI (defArgs i_BadBook) (defBody i_BadBook) (defScope i_BadBook) ["book"] vs [] vs := fun vs h => match vs, h with | [v0], _ => fun _ _ _ _ _ _ _ _ => rfl
theorem bk_BadBook : ∀ ws : List Value, ws.length = 1 → BindsI (defArgs i_BadBook) (defBody i_BadBook) (defScope i_BadBook) ["book"] [] ((["book"] : List Str).zip ws) (permU [0] ws) := fun vs h => match vs, h with | [v0], _ => fun _ _ _ _ _ _ _ _ => rfl
abbrev i_NoName : Stmt := clsInit (top 8)
theorem ini_NoName : IsInitN (defBody i_NoName) ["named"] := ⟨_, _, _, _, _, _, _, _, [⟨"named", _, _, _, _⟩], _, rfl, rfl, fun env => rfl⟩
theorem ss_NoName : SupSN (defArgs i_NoName) (defScope i_NoName) ["named"] := ⟨rfl, rfl, rfl, by decide +kernel, by decide +kernel, rfl, rfl, rfl, ⟨_, rfl, rfl⟩, by decide +kernel, by decide +kernel⟩
theorem bp_NoName : ∀ vs : List Value, vs.length = 1 → BindsI (defArgs i_NoName) (defBody i_NoName) (defScope i_NoName) ["named"] vs [] vs := fun vs h => match vs, h with | [v0], _ => fun _ _ _ _ _ _ _ _ => rfl
theorem bk_NoName : ∀ ws : List Value, ws.length = 1 → BindsI (defArgs i_NoName) (defBody i_NoName) (defScope i_NoName) ["named"] [] ((["named"] : List Str).zip ws) (permU [0] ws) := fun vs h => match vs, h with | [v0], _ => fun _ _ _ _ _ _ _ _ => rfl
abbrev i_TooGreat : Stmt := clsInit (top 9)
theorem ini_TooGreat : IsInitN (defBody i_TooGreat) ["most"] := ⟨_, _, _, _, _, _, _, _, [⟨"most", _, _, _, _⟩], _, rfl, rfl, fun env => rfl⟩
theorem ss_TooGreat : SupSN (defArgs i_TooGreat) (defScope i_TooGreat) ["most"] := ⟨rfl, rfl, rfl, by decide +kernel, by decide +kernel, rfl, rfl, rfl, ⟨_, rfl, rfl⟩, by decide +kernel, by decide +kernel⟩
theorem bp_TooGreat : ∀ vs : List Value, vs.length = 1 → BindsI (defArgs i_TooGreat) (defBody i_TooGreat) (defScope i_TooGreat) ["most"] vs [] vs := fun vs h => match vs, h with | [v0], _ => fun _ _ _ _ _ _ _ _ => rfl
theorem bk_TooGreat : ∀ ws : List Value, ws.length = 1 → BindsI (defArgs i_TooGreat) (defBody i_TooGreat) (defScope i_TooGreat) ["most"] [] ((["most"] : List Str).zip ws) (permU [0] ws) := fun vs h => match vs, h with | [v0], _ => fun _ _ _ _ _ _ _ _ => rfl
abbrev i_Refused : Stmt := clsInit (top 10)
theorem ini_Refused : IsInitN (defBody i_Refused) ["path"] := ⟨_, _, _, _, _, _, _, _, [⟨"path", _, _, _, _⟩], _, rfl, rfl, fun env => rfl⟩
theorem ss_Refused : SupSN (defArgs i_Refused) (defScope i_Refused) ["path"] := ⟨rfl, rfl, rfl, by decide +kernel, by decide +kernel, rfl, rfl, rfl, ⟨_, rfl, rfl⟩, by decide +kernel, by decide +kernel⟩
theorem bp_Refused : ∀ vs : List Value, vs.length = 1 → BindsI (defArgs i_Refused) (defBody i_Refused) (defScope i_Refused) ["path"] vs [] vs := fun vs h => match vs, h with | [v0], _ => fun _ _ _ _ _ _ _ _ => rfl
theorem bk_Refused : ∀ ws : List Value, ws.length = 1 → BindsI (defArgs i_Refused) (defBody i_Refused) (defScope i_Refused) ["path"] [] ((["path"] : List Str).zip ws) (permU [0] ws) := fun vs h => match vs, h with | [v0], _ => fun _ _ _ _ _ _ _ _ => rfl
abbrev i_BadNumber : Stmt := clsInit (top 11)
theorem ini_BadNumber : IsInitN (defBody i_BadNumber) ["number"] := ⟨_, _, _, _, _, _, _, _, [⟨"number", _, _, _, _⟩], _, rfl, rfl, fun env => rfl⟩
theorem ss_BadNumber : SupSN (defArgs i_BadNumber) (defScope i_BadNumber) ["number"] := ⟨rfl, rfl, rfl, by decide +kernel, by decide +kernel, rfl, rfl, rfl, ⟨_, rfl, rfl⟩, by decide +kernel, by decide +kernel⟩
theorem bp_BadNumber : ∀ vs : List Value, vs.length = 1 → BindsI (defArgs i_BadNumber) (defBody i_BadNumber) (defScope i_BadNumber) ["number"] vs [] vs := fun vs h => match vs, h with | [v0], _ => fun _ _ _ _ _ _ _ _ => rfl
theorem bk_BadNumber : ∀ ws : List Value, ws.length = 1 → BindsI (defArgs i_BadNumber) (defBody i_BadNumber) (defScope i_BadNumber) ["number"] [] ((["number"] : List Str).zip ws) (permU [0] ws) := fun vs h => match vs, h with | [v0], _ => fun _ _ _ _ _ _ _ _ => rfl
abbrev i_BadRow : Stmt := clsInit (top 18)
theorem ini_BadRow : IsInitN (defBody i_BadRow) ["row"] := ⟨_, _, _, _, _, _, _, _, [⟨"row", _, _, _, _⟩], _, rfl, rfl, fun env => rfl⟩
theorem ss_BadRow : SupSN (defArgs i_BadRow) (defScope i_BadRow) ["row"] := ⟨rfl, rfl, rfl, by decide +kernel, by decide +kernel, rfl, rfl, rfl, ⟨_, rfl, rfl⟩, by decide +kernel, by decide +kernel⟩
theorem bp_BadRow : ∀ vs : List Value, vs.length = 1 → BindsI (defArgs i_BadRow) (defBody i_BadRow) (defScope i_BadRow) ["row"] vs [] vs := fun vs h => match vs, h with | [v0], _ => fun _ _ _ _ _ _ _ _ => rfl
theorem bk_BadRow : ∀ ws : List Value, ws.length = 1 → BindsI (defArgs i_BadRow) (defBody i_BadRow) (defScope i_BadRow) ["row"] [] ((["row"] : List Str).zip ws) (permU [0] ws) := fun vs h => match vs, h with | [v0], _ => fun _ _ _ _ _ _ _ _ => rfl
abbrev i_BadSize : Stmt := clsInit (top 19)
theorem ini_BadSize : IsInitN (defBody i_BadSize) ["size"] := ⟨_, _, _, _, _, _, _, _, [⟨"size", _, _, _, _⟩], _, rfl, rfl, fun env => rfl⟩
theorem ss_BadSize : SupSN (defArgs i_BadSize) (defScope i_BadSize) ["size"] := ⟨rfl, rfl, rfl, by decide +kernel, by decide +kernel, rfl, rfl, rfl, ⟨_, rfl, rfl⟩, by decide +kernel, by decide +kernel⟩
theorem bp_BadSize : ∀ vs : List Value, vs.length = 1 → BindsI (defArgs i_BadSize) (defBody i_BadSize) (defScope i_BadSize) ["size"] vs [] vs := fun vs h => match vs, h with | [v0], _ => fun _ _ _ _ _ _ _ _ => rfl
theorem bk_BadSize : ∀ ws : List Value, ws.length = 1 → BindsI (defArgs i_BadSize) (defBody i_BadSize) (defScope i_BadSize) ["size"] [] ((["size"] : List Str).zip ws) (permU [0] ws) := fun vs h => match vs, h with | [v0], _ => fun _ _ _ _ _ _ _ _ => rfl
abbrev i_TooShort : Stmt := clsInit (top 20)
theorem ini_TooShort : IsInitN (defBody i_TooShort) ["row"] := ⟨_, _, _, _, _, _, _, _, [⟨"row", _, _, _, _⟩], _, rfl, rfl, fun env => rfl⟩
theorem ss_TooShort : SupSN (defArgs i_TooShort) (defScope i_TooShort) ["row"] := ⟨rfl, rfl, rfl, by decide +kernel, by decide +kernel, rfl, rfl, rfl, ⟨_, rfl, rfl⟩, by decide +kernel, by decide +kernel⟩
theorem bp_TooShort : ∀ vs : List Value, vs.length = 1 → BindsI (defArgs i_TooShort) (defBody i_TooShort) (defScope i_TooShort) ["row"] vs [] vs := fun vs h => match vs, h with | [v0], _ => fun _ _ _ _ _ _ _ _ => rfl
theorem bk_TooShort : ∀ ws : List Value, ws.length = 1 → BindsI (defArgs i_TooShort) (defBody i_TooShort) (defScope i_TooShort) ["row"] [] ((["row"] : List Str).zip ws) (permU [0] ws) := fun vs h => match vs, h with | [v0], _ => fun _ _ _ _ _ _ _ _ => rfl
abbrev i_BadWord : Stmt := clsInit (top 22)
theorem ini_BadWord : IsInitN (defBody i_BadWord) ["word"] := ⟨_, _, _, _, _, _, _, _, [⟨"word", _, _, _, _⟩], _, rfl, rfl, fun env => rfl⟩
theorem ss_BadWord : SupSN (defArgs i_BadWord) (defScope i_BadWord) ["word"] := ⟨rfl, rfl, rfl, by decide +kernel, by decide +kernel, rfl, rfl, rfl, ⟨_, rfl, rfl⟩, by decide +kernel, by decide +kernel⟩
theorem bp_BadWord : ∀ vs : List Value, vs.length = 1 → BindsI (defArgs i_BadWord) (defBody i_BadWord) (defScope i_BadWord) ["word"] vs [] vs := fun vs h => match vs, h with | [v0], _ => fun _ _ _ _ _ _ _ _ => rfl
theorem bk_BadWord : ∀ ws : List Value, ws.length = 1 → BindsI (defArgs i_BadWord) (defBody i_BadWord) (defScope i_BadWord) ["word"] [] ((["word"] : List Str).zip ws) (permU [0] ws) := fun vs h => match vs, h with | [v0], _ => fun _ _ _ _ _ _ _ _ => rfl
abbrev i_BadLines : Stmt := clsInit (top 24)
theorem ini_BadLines : IsInitN (defBody i_BadLines) ["lines"] := ⟨_, _, _, _, _, _, _, _, [⟨"lines", _, _, _, _⟩], _, rfl, rfl, fun env => rfl⟩
theorem ss_BadLines : SupSN (defArgs i_BadLines) (defScope i_BadLines) ["lines"] := ⟨rfl, rfl, rfl, by decide +kernel, by decide +kernel, rfl, rfl, rfl, ⟨_, rfl, rfl⟩, by decide +kernel, by decide +kernel⟩
theorem bp_BadLines : ∀ vs : List Value, vs.length = 1 → BindsI (defArgs i_BadLines) (defBody i_BadLines) (defScope i_BadLines) ["lines"] vs [] vs := fun vs h => match vs, h with | [v0], _ => fun _ _ _ _ _ _ _ _ => rfl
theorem bk_BadLines : ∀ ws : List Value, ws.length = 1 → BindsI (defArgs i_BadLines) (defBody i_BadLines) (defScope i_BadLines) ["lines"] [] ((["lines"] : List Str).zip ws) (permU [0] ws) := fun vs h => match vs, h with | [v0], _ => fun _ _ _ _ _ _ _ _ => rfl
abbrev i_BadLoop : Stmt := clsInit (top 26)
theorem ini_BadLoop : IsInitN (defBody i_BadLoop) ["loop"] := ⟨_, _, _, _, _, _, _, _, [⟨"loop", _, _, _, _⟩], _, rfl, rfl, fun env => rfl⟩
theorem ss_BadLoop : SupSN (defArgs i_BadLoop) (defScope i_BadLoop) ["loop"] := ⟨rfl, rfl, rfl, by decide +kernel, by decide +kernel, rfl, rfl, rfl, ⟨_, rfl, rfl⟩, by decide +kernel, by decide +kernel⟩
theorem bp_BadLoop : ∀ vs : List Value, vs.length = 1 → BindsI (defArgs i_BadLoop) (defBody i_BadLoop) (defScope i_BadLoop) ["loop"] vs [] vs := fun vs h => match vs, h with | [v0], _ => fun _ _ _ _ _ _ _ _ => rfl
theorem bk_BadLoop : ∀ ws : List Value, ws.length = 1 → BindsI (defArgs i_BadLoop) (defBody i_BadLoop) (defScope i_BadLoop) ["loop"] [] ((["loop"] : List Str).zip ws) (permU [0] ws) := fun vs h => match vs, h with | [v0], _ => fun _ _ _ _ _ _ _ _ => rfl
abbrev i_BadChain : Stmt := clsInit (top 28)
theorem ini_BadChain : IsInitN (defBody i_BadChain) ["chain"] := ⟨_, _, _, _, _, _, _, _, [⟨"chain", _, _, _, _⟩], _, rfl, rfl, fun env => rfl⟩
theorem ss_BadChain : SupSN (defArgs i_BadChain) (defScope i_BadChain) ["chain"] := ⟨rfl, rfl, rfl, by decide +kernel, by decide +kernel, rfl, rfl, rfl, ⟨_, rfl, rfl⟩, by decide +kernel, by decide +kernel⟩
theorem bp_BadChain : ∀ vs : List Value, vs.length = 1 → BindsI (defArgs i_BadChain) (defBody i_BadChain) (defScope i_BadChain) ["chain"] vs [] vs := fun vs h => match vs, h with | [v0], _ => fun _ _ _ _ _ _ _ _ => rfl
theorem bk_BadChain : ∀ ws : List Value, ws.length = 1 → BindsI (defArgs i_BadChain) (defBody i_BadChain) (defScope i_BadChain) ["chain"] [] ((["chain"] : List Str).zip ws) (permU [0] ws) := fun vs h => match vs, h with | [v0], _ => fun _ _ _ _ _ _ _ _ => rfl
abbrev i_BadMove : Stmt := clsInit (top 29)
theorem ini_BadMove : IsInitN (defBody i_BadMove) ["move"] := ⟨_, _, _, _, _, _, _, _, [⟨"move", _, _, _, _⟩], _, rfl, rfl, fun env => rfl⟩
theorem ss_BadMove : SupSN (defArgs i_BadMove) (defScope i_BadMove) ["move"] := ⟨rfl, rfl, rfl, by decide +kernel, by decide +kernel, rfl, rfl, rfl, ⟨_, rfl, rfl⟩, by decide +kernel, by decide +kernel⟩
theorem bp_BadMove : ∀ vs : List Value, vs.length = 1 → BindsI (defArgs i_BadMove) (defBody i_BadMove) (defScope i_BadMove) ["move"] vs [] vs := fun vs h => match vs, h with | [v0], _ => fun _ _ _ _ _ _ _ _ => rfl
theorem bk_BadMove : ∀ ws : List Value, ws.length = 1 → BindsI (defArgs i_BadMove) (defBody i_BadMove) (defScope i_BadMove) ["move"] [] ((["move"] : List Str).zip ws) (permU [0] ws) := fun vs h => match vs, h with | [v0], _ => fun _ _ _ _ _ _ _ _ => rfl
abbrev i_Unfit : Stmt := clsInit (top 30)
theorem ini_Unfit : IsInitN (defBody i_Unfit) ["move"] := ⟨_, _, _, _, _, _, _, _, [⟨"move", _, _, _, _⟩], _, rfl, rfl, fun env => rfl⟩
theorem ss_Unfit : SupSN (defArgs i_Unfit) (defScope i_Unfit) ["move"] := ⟨rfl, rfl, rfl, by decide +kernel, by decide +kernel, rfl, rfl, rfl, ⟨_, rfl, rfl⟩, by decide +kernel, by decide +kernel⟩
theorem bp_Unfit : ∀ vs : List Value, vs.length = 1 → BindsI (defArgs i_Unfit) (defBody i_Unfit) (defScope i_Unfit) ["move"] vs [] vs := fun vs h => match vs, h with | [v0], _ => fun _ _ _ _ _ _ _ _ => rfl
theorem bk_Unfit : ∀ ws : List Value, ws.length = 1 → BindsI (defArgs i_Unfit) (defBody i_Unfit) (defScope i_Unfit) ["move"] [] ((["move"] : List Str).zip ws) (permU [0] ws) := fun vs h => match vs, h with | [v0], _ => fun _ _ _ _ _ _ _ _ => rfl
abbrev i_BadName : Stmt := clsInit (top 32)
theorem ini_BadName : IsInitN (defBody i_BadName) ["name"] := ⟨_, _, _, _, _, _, _, _, [⟨"name", _, _, _, _⟩], _, rfl, rfl, fun env => rfl⟩
theorem ss_BadName : SupSN (defArgs i_BadName) (defScope i_BadName) ["name"] := ⟨rfl, rfl, rfl, by decide +kernel, by decide +kernel, rfl, rfl, rfl, ⟨_, rfl, rfl⟩, by decide +kernel, by decide +kernel⟩
theorem bp_BadName : ∀ vs : List Value, vs.length = 1 → BindsI (defArgs i_BadName) (defBody i_BadName) (defScope i_BadName) ["name"] vs [] vs := fun vs h => match vs, h with | [v0], _ => fun _ _ _ _ _ _ _ _ => rfl
theorem bk_BadName : ∀ ws : List Value, ws.length = 1 → BindsI (defArgs i_BadName) (defBody i_BadName) (defScope i_BadName) ["name"] [] ((["name"] : List Str).zip ws) (permU [0] ws) := fun vs h => match vs, h with | [v0], _ => fun _ _ _ _ _ _ _ _ => rfl
abbrev i_Taken : Stmt := clsInit (top 33)
theorem ini_Taken : IsInitN (defBody i_Taken) ["name"] := ⟨_, _, _, _, _, _, _, _, [⟨"name", _, _, _, _⟩], _, rfl, rfl, fun env => rfl⟩
theorem ss_Taken : SupSN (defArgs i_Taken) (defScope i_Taken) ["name"] := ⟨rfl, rfl, rfl, by decide +kernel, by decide +kernel, rfl, rfl, rfl, ⟨_, rfl, rfl⟩, by decide +kernel, by decide +kernel⟩
theorem bp_Taken : ∀ vs : List Value, vs.length = 1 → BindsI (defArgs i_Taken) (defBody i_Taken) (defScope i_Taken) ["name"] vs [] vs := fun vs h => match vs, h with | [v0], _ => fun _ _ _ _ _ _ _ _ => rfl
theorem bk_Taken : ∀ ws : List Value, ws.length = 1 → BindsI (defArgs i_Taken) (defBody i_Taken) (defScope i_Taken) ["name"] [] ((["name"] : List Str).zip ws) (permU [0] ws) := fun vs h => match vs, h with | [v0], _ => fun _ _ _ _ _ _ _ _ => rfl
abbrev i_Crowded : Stmt := clsInit (top 34)
theorem ini_Crowded : IsInitN (defBody i_Crowded) ["name"] := ⟨_, _, _, _, _, _, _, _, [⟨"name", _, _, _, _⟩], _, rfl, rfl, fun env => rfl⟩
theorem ss_Crowded : SupSN (defArgs i_Crowded) (defScope i_Crowded) ["name"] := ⟨rfl, rfl, rfl, by decide +kernel, by decide +kernel, rfl, rfl, rfl, ⟨_, rfl, rfl⟩, by decide +kernel, by decide +kernel⟩
theorem bp_Crowded : ∀ vs : List Value, vs.length = 1 → BindsI (defArgs i_Crowded) (defBody i_Crowded) (defScope i_Crowded) ["name"] vs [] vs := fun vs h => match vs, h with | [v0], _ => fun _ _ _ _ _ _ _ _ => rfl
theorem bk_Crowded : ∀ ws : List Value, ws.length = 1 → BindsI (defArgs i_Crowded) (defBody i_Crowded) (defScope i_Crowded) ["name"] [] ((["name"] : List Str).zip ws) (permU [0] ws) := fun vs h => match vs, h with | [v0], _ => fun _ _ _ _ _ _ _ _ => rfl
abbrev i_BadStep : Stmt := clsInit (top 40)
theorem ini_BadStep : IsInitN (defBody i_BadStep) ["step"] := ⟨_, _, _, _, _, _, _, _, [⟨"step", _, _, _, _⟩], _, rfl, rfl, fun env => rfl⟩
theorem ss_BadStep : SupSN (defArgs i_BadStep) (defScope i_BadStep) ["step"] := ⟨rfl, rfl, rfl, by decide +kernel, by decide +kernel, rfl, rfl, rfl, ⟨_, rfl, rfl⟩, by decide +kernel, by decide +kernel⟩
theorem bp_BadStep : ∀ vs : List Value, vs.length = 1 → BindsI (defArgs i_BadStep) (defBody i_BadStep) (defScope i_BadStep) ["step"] vs [] vs := fun vs h => match vs, h with | [v0], _ => fun _ _ _ _ _ _ _ _ => rfl
theorem bk_BadStep : ∀ ws : List Value, ws.length = 1 → BindsI (defArgs i_BadStep) (defBody i_BadStep) (defScope i_BadStep) ["step"] [] ((["step"] : List Str).zip ws) (permU [0] ws) := fun vs h => match vs, h with | [v0], _ => fun _ _ _ _ _ _ _ _ => rfl
abbrev i_BadSteps : Stmt := clsInit (top 41)
theorem ini_BadSteps : IsInitN (defBody i_BadSteps) ["steps"] := ⟨_, _, _, _, _, _, _, _, [⟨"steps", _, _, _, _⟩], _, rfl, rfl, fun env => rfl⟩
theorem ss_BadSteps : SupSN (defArgs i_BadSteps) (defScope i_BadSteps) ["steps"] := ⟨rfl, rfl, rfl, by decide +kernel, by decide +kernel, rfl, rfl, rfl, ⟨_, rfl, rfl⟩, by decide +kernel, by decide +kernel⟩
theorem bp_BadSteps : ∀ vs : List Value, vs.length = 1 → BindsI (defArgs i_BadSteps) (defBody i_BadSteps) (defScope i_BadSteps) ["steps"] vs [] vs := fun vs h => match vs, h with | [v0], _ => fun _ _ _ _ _ _ _ _ => rfl
theorem bk_BadSteps : ∀ ws : List Value, ws.length = 1 → BindsI (defArgs i_BadSteps) (defBody i_BadSteps) (defScope i_BadSteps) ["steps"] [] ((["steps"] : List Str).zip ws) (permU [0] ws) := fun vs h => match vs, h with | [v0], _ => fun _ _ _ _ _ _ _ _ => rfl
abbrev i_Barred : Stmt := clsInit (top 42)
theorem ini_Barred : IsInitN (defBody i_Barred) ["fault"] := ⟨_, _, _, _, _, _, _, _, [⟨"fault", _, _, _, _⟩], _, rfl, rfl, fun env => rfl⟩
theorem ss_Barred : SupSN (defArgs i_Barred) (defScope i_Barred) ["fault"] := ⟨rfl, rfl, rfl, by decide +kernel, by decide +kernel, rfl, rfl, rfl, ⟨_, rfl, rfl⟩, by decide +kernel, by decide +kernel⟩
theorem bp_Barred : ∀ vs : List Value, vs.length = 1 → BindsI (defArgs i_Barred) (defBody i_Barred) (defScope i_Barred) ["fault"] vs [] vs := fun vs h => match vs, h with | [v0], _ => fun _ _ _ _ _ _ _ _ => rfl
theorem bk_Barred : ∀ ws : List Value, ws.length = 1 → BindsI (defArgs i_Barred) (defBody i_Barred) (defScope i_Barred) ["fault"] [] ((["fault"] : List Str).zip ws) (permU [0] ws) := fun vs h => match vs, h with | [v0], _ => fun _ _ _ _ _ _ _ _ => rfl
abbrev i_BadPaper : Stmt := clsInit (top 44)
theorem ini_BadPaper : IsInitN (defBody i_BadPaper) ["paper"] := ⟨_, _, _, _, _, _, _, _, [⟨"paper", _, _, _, _⟩], _, rfl, rfl, fun env => rfl⟩
theorem ss_BadPaper : SupSN (defArgs i_BadPaper) (defScope i_BadPaper) ["paper"] := ⟨rfl, rfl, rfl, by decide +kernel, by decide +kernel, rfl, rfl, rfl, ⟨_, rfl, rfl⟩, by decide +kernel, by decide +kernel⟩
theorem bp_BadPaper : ∀ vs : List Value, vs.length = 1 → BindsI (defArgs i_BadPaper) (defBody i_BadPaper) (defScope i_BadPaper) ["paper"] vs [] vs := fun vs h => match vs, h with | [v0], _ => fun _ _ _ _ _ _ _ _ => rfl
theorem bk_BadPaper : ∀ ws : List Value, ws.length = 1 → BindsI (defArgs i_BadPaper) (defBody i_BadPaper) (defScope i_BadPaper) ["paper"] [] ((["paper"] : List Str).zip ws) (permU [0] ws) := fun vs h => match vs, h with | [v0], _ => fun _ _ _ _ _ _ _ _ => rfl
abbrev i_BadJournal : Stmt := clsInit (top 45)
theorem ini_BadJournal : IsInitN (defBody i_BadJournal) ["journal"] := ⟨_, _, _, _, _, _, _, _, [⟨"journal", _, _, _, _⟩], _, rfl, rfl, fun env => rfl⟩
theorem ss_BadJournal : SupSN (defArgs i_BadJournal) (defScope i_BadJournal) ["journal"] := ⟨rfl, rfl, rfl, by decide +kernel, by decide +kernel, rfl, rfl, rfl, ⟨_, rfl, rfl⟩, by decide +kernel, by decide +kernel⟩
theorem bp_BadJournal : ∀ vs : List Value, vs.length = 1 → BindsI (defArgs i_BadJournal) (defBody i_BadJournal) (defScope i_BadJournal) ["journal"] vs [] vs := fun vs h => match vs, h with | [v0], _ => fun _ _ _ _ _ _ _ _ => rfl
theorem bk_BadJournal : ∀ ws : List Value, ws.length = 1 → BindsI (defArgs i_BadJournal) (defBody i_BadJournal) (defScope i_BadJournal) ["journal"] [] ((["journal"] : List Str).zip ws) (permU [0] ws) := fun vs h => match vs, h with | [v0], _ => fun _ _ _ _ _ _ _ _ => rfl
abbrev i_BadOperator : Stmt := clsInit (top 47)
theorem ini_BadOperator : IsInitN (defBody i_BadOperator) ["operator"] := ⟨_, _, _, _, _, _, _, _, [⟨"operator", _, _, _, _⟩], _, rfl, rfl, fun env => rfl⟩
theorem ss_BadOperator : SupSN (defArgs i_BadOperator) (defScope i_BadOperator) ["operator"] := ⟨rfl, rfl, rfl, by decide +kernel, by decide +kernel, rfl, rfl, rfl, ⟨_, rfl, rfl⟩, by decide +kernel, by decide +kernel⟩
theorem bp_BadOperator : ∀ vs : List Value, vs.length = 1 → BindsI (defArgs i_BadOperator) (defBody i_BadOperator) (defScope i_BadOperator) ["operator"] vs [] vs := fun vs h => match vs, h with | [v0], _ => fun _ _ _ _ _ _ _ _ => rfl
theorem bk_BadOperator : ∀ ws : List Value, ws.length = 1 → BindsI (defArgs i_BadOperator) (defBody i_BadOperator) (defScope i_BadOperator) ["operator"] [] ((["operator"] : List Str).zip ws) (permU [0] ws) := fun vs h => match vs, h with | [v0], _ => fun _ _ _ _ _ _ _ _ => rfl
abbrev i_BadRule : Stmt := clsInit (top 51)
theorem ini_BadRule : IsInitN (defBody i_BadRule) ["rule"] := ⟨_, _, _, _, _, _, _, _, [⟨"rule", _, _, _, _⟩], _, rfl, rfl, fun env => rfl⟩
theorem ss_BadRule : SupSN (defArgs i_BadRule) (defScope i_BadRule) ["rule"] := ⟨rfl, rfl, rfl, by decide +kernel, by decide +kernel, rfl, rfl, rfl, ⟨_, rfl, rfl⟩, by decide +kernel, by decide +kernel⟩
theorem bp_BadRule : ∀ vs : List Value, vs.length = 1 → BindsI (defArgs i_BadRule) (defBody i_BadRule) (defScope i_BadRule) ["rule"] vs [] vs := fun vs h => match vs, h with | [v0], _ => fun _ _ _ _ _ _ _ _ => rfl
theorem bk_BadRule : ∀ ws : List Value, ws.length = 1 → BindsI (defArgs i_BadRule) (defBody i_BadRule) (defScope i_BadRule) ["rule"] [] ((["rule"] : List Str).zip ws) (permU [0] ws) := fun vs h => match vs, h with | [v0], _ => fun _ _ _ _ _ _ _ _ => rfl
abbrev i_Stuck : Stmt := clsInit (top 52)
theorem ini_Stuck : IsInitN (defBody i_Stuck) ["number"] := ⟨_, _, _, _, _, _, _, _, [⟨"number", _, _, _, _⟩], _, rfl, rfl, fun env => rfl⟩
theorem ss_Stuck : SupSN (defArgs i_Stuck) (defScope i_Stuck) ["number"] := ⟨rfl, rfl, rfl, by decide +kernel, by decide +kernel, rfl, rfl, rfl, ⟨_, rfl, rfl⟩, by decide +kernel, by decide +kernel⟩
theorem bp_Stuck : ∀ vs : List Value, vs.length = 1 → BindsI (defArgs i_Stuck) (defBody i_Stuck) (defScope i_Stuck) ["number"] vs [] vs := fun vs h => match vs, h with | [v0], _ => fun _ _ _ _ _ _ _ _ => rfl
theorem bk_Stuck : ∀ ws : List Value, ws.length = 1 → BindsI (defArgs i_Stuck) (defBody i_Stuck) (defScope i_Stuck) ["number"] [] ((["number"] : List Str).zip ws) (permU [0] ws) := fun vs h => match vs, h with | [v0], _ => fun _ _ _ _ _ _ _ _ => rfl
abbrev i_Unright : Stmt := clsInit (top 35)
theorem ini_Unright : IsInitN (defBody i_Unright) ["word", "path"] := ⟨_, _, _, _, _, _, _, _, [⟨"word", _, _, _, _⟩, ⟨"path", _, _, _, _⟩], _, rfl, rfl, fun env => rfl⟩
theorem ss_Unright : SupSN (defArgs i_Unright) (defScope i_Unright) ["word", "path"] := ⟨rfl, rfl, rfl, by decide +kernel, by decide +kernel, rfl, rfl, rfl, ⟨_, rfl, rfl⟩, by decide +kernel, by decide +kernel⟩
theorem bp_Unright : ∀ vs : List Value, vs.length = 2 → BindsI (defArgs i_Unright) (defBody i_Unright) (defScope i_Unright) ["word", "path"] vs [] vs := fun vs h => match vs, h with | [v0, v1], _ => fun _ _ _ _ _ _ _ _ => rfl
theorem bk_Unright : ∀ ws : List Value, ws.length = 2 → BindsI (defArgs i_Unright) (defBody i_Unright) (defScope i_Unright) ["word", "path"] [] ((["word", "path"] : List Str).zip ws) (permU [0, 1] ws) := fun vs h => match vs, h with | [v0, v1], _ => fun _ _ _ _ _ _ _ _ => rfl
abbrev i_Used : Stmt := clsInit (top 37)
theorem ini_Used : IsInitN (defBody i_Used) ["named", "by"] := ⟨_, _, _, _, _, _, _, _, [⟨"named", _, _, _, _⟩, ⟨"by", _, _, _, _⟩], _, rfl, rfl, fun env => rfl⟩
theorem ss_Used : SupSN (defArgs i_Used) (defScope i_Used) ["named", "by"] := ⟨rfl, rfl, rfl, by decide +kernel, by decide +kernel, rfl, rfl, rfl, ⟨_, rfl, rfl⟩, by decide +kernel, by decide +kernel⟩
theorem bp_Used : ∀ vs : List Value, vs.length = 2 → BindsI (defArgs i_Used) (defBody i_Used) (defScope i_Used) ["named", "by"] vs [] vs := fun vs h => match vs, h with | [v0, v1], _ => fun _ _ _ _ _ _ _ _ => rfl
theorem bk_Used : ∀ ws : List Value, ws.length = 2 → BindsI (defArgs i_Used) (defBody i_Used) (defScope i_Used) ["named", "by"] [] ((["named", "by"] : List Str).zip ws) (permU [0, 1] ws) := fun vs h => match vs, h with | [v0, v1], _ => fun _ _ _ _ _ _ _ _ => rfl
abbrev i_BadText : Stmt := clsInit (top 43)
theorem ini_BadText : IsInitN (defBody i_BadText) ["text", "line"] := ⟨_, _, _, _, _, _, _, _, [⟨"text", _, _, _, _⟩, ⟨"line", _, _, _, _⟩], _, rfl, rfl, fun env => rfl⟩
theorem ss_BadText : SupSN (defArgs i_BadText) (defScope i_BadText) ["text", "line"] := ⟨rfl, rfl, rfl, by decide +kernel, by decide +kernel, rfl, rfl, rfl, ⟨_, rfl, rfl⟩, by decide +kernel, by decide +kernel⟩
theorem bp_BadText : ∀ vs : List Value, vs.length = 2 → BindsI (defArgs i_BadText) (defBody i_BadText) (defScope i_BadText) ["text", "line"] vs [] vs := fun vs h => match vs, h with | [v0, v1], _ => fun _ _ _ _ _ _ _ _ => rfl
theorem bk_BadText : ∀ ws : List Value, ws.length = 2 → BindsI (defArgs i_BadText) (defBody i_BadText) (defScope i_BadText) ["text", "line"] [] ((["text", "line"] : List Str).zip ws) (permU [0, 1] ws) := fun vs h => match vs, h with | [v0, v1], _ => fun _ _ _ _ _ _ _ _ => rfl
abbrev i_Unread : Stmt := clsInit (top 49)
theorem ini_Unread : IsInitN (defBody i_Unread) ["text", "place"] := ⟨_, _, _, _, _, _, _, _, [⟨"text", _, _, _, _⟩, ⟨"place", _, _, _, _⟩], _, rfl, rfl, fun env => rfl⟩
theorem ss_Unread : SupSN (defArgs i_Unread) (defScope i_Unread) ["text", "place"] := ⟨rfl, rfl, rfl, by decide +kernel, by decide +kernel, rfl, rfl, rfl, ⟨_, rfl, rfl⟩, by decide +kernel, by decide +kernel⟩
theorem bp_Unread : ∀ vs : List Value, vs.length = 2 → BindsI (defArgs i_Unread) (defBody i_Unread) (defScope i_Unread) ["text", "place"] vs [] vs := fun vs h => match vs, h with | [v0, v1], _ => fun _ _ _ _ _ _ _ _ => rfl
theorem bk_Unread : ∀ ws : List Value, ws.length = 2 → BindsI (defArgs i_Unread) (defBody i_Unread) (defScope i_Unread) ["text", "place"] [] ((["text", "place"] : List Str).zip ws) (permU [0, 1] ws) := fun vs h => match vs, h with | [v0, v1], _ => fun _ _ _ _ _ _ _ _ => rfl
abbrev i_NothingDone : Stmt := clsInit (top 38)
theorem ini_NothingDone : IsInitN (defBody i_NothingDone) [] := ⟨_, _, _, _, _, _, _, _, [], _, rfl, rfl, fun env => rfl⟩
theorem ss_NothingDone : SupSN (defArgs i_NothingDone) (defScope i_NothingDone) [] := ⟨rfl, rfl, rfl, by decide +kernel, by decide +kernel, rfl, rfl, rfl, ⟨_, rfl, rfl⟩, by decide +kernel, by decide +kernel⟩
theorem bp_NothingDone : ∀ vs : List Value, vs.length = 0 → BindsI (defArgs i_NothingDone) (defBody i_NothingDone) (defScope i_NothingDone) [] vs [] vs := fun vs h => match vs, h with | [], _ => fun _ _ _ _ _ _ _ _ => rfl
theorem bk_NothingDone : ∀ ws : List Value, ws.length = 0 → BindsI (defArgs i_NothingDone) (defBody i_NothingDone) (defScope i_NothingDone) [] [] (([] : List Str).zip ws) (permU [] ws) := fun vs h => match vs, h with | [], _ => fun _ _ _ _ _ _ _ _ => rfl
abbrev i_NothingUndone : Stmt := clsInit (top 39)
theorem ini_NothingUndone : IsInitN (defBody i_NothingUndone) [] := ⟨_, _, _, _, _, _, _, _, [], _, rfl, rfl, fun env => rfl⟩
theorem ss_NothingUndone : SupSN (defArgs i_NothingUndone) (defScope i_NothingUndone) [] := ⟨rfl, rfl, rfl, by decide +kernel, by decide +kernel, rfl, rfl, rfl, ⟨_, rfl, rfl⟩, by decide +kernel, by decide +kernel⟩
theorem bp_NothingUndone : ∀ vs : List Value, vs.length = 0 → BindsI (defArgs i_NothingUndone) (defBody i_NothingUndone) (defScope i_NothingUndone) [] vs [] vs := fun vs h => match vs, h with | [], _ => fun _ _ _ _ _ _ _ _ => rfl
theorem bk_NothingUndone : ∀ ws : List Value, ws.length = 0 → BindsI (defArgs i_NothingUndone) (defBody i_NothingUndone) (defScope i_NothingUndone) [] [] (([] : List Str).zip ws) (permU [] ws) := fun vs h => match vs, h with | [], _ => fun _ _ _ _ _ _ _ _ => rfl
abbrev i_Breaks : Stmt := clsInit (top 36)
theorem ini_Breaks : IsInitN (defBody i_Breaks) ["name", "word", "path"] := ⟨_, _, _, _, _, _, _, _, [⟨"name", _, _, _, _⟩, ⟨"word", _, _, _, _⟩, ⟨"path", _, _, _, _⟩], _, rfl, rfl, fun env => rfl⟩
theorem ss_Breaks : SupSN (defArgs i_Breaks) (defScope i_Breaks) ["name", "word", "path"] := ⟨rfl, rfl, rfl, by decide +kernel, by decide +kernel, rfl, rfl, rfl, ⟨_, rfl, rfl⟩, by decide +kernel, by decide +kernel⟩
theorem bp_Breaks : ∀ vs : List Value, vs.length = 3 → BindsI (defArgs i_Breaks) (defBody i_Breaks) (defScope i_Breaks) ["name", "word", "path"] vs [] vs := fun vs h => match vs, h with | [v0, v1, v2], _ => fun _ _ _ _ _ _ _ _ => rfl
theorem bk_Breaks : ∀ ws : List Value, ws.length = 3 → BindsI (defArgs i_Breaks) (defBody i_Breaks) (defScope i_Breaks) ["name", "word", "path"] [] ((["name", "word", "path"] : List Str).zip ws) (permU [0, 1, 2] ws) := fun vs h => match vs, h with | [v0, v1, v2], _ => fun _ _ _ _ _ _ _ _ => rfl
theorem bk2_Breaks : ∀ ws : List Value, ws.length = 3 → BindsI (defArgs i_Breaks) (defBody i_Breaks) (defScope i_Breaks) ["name", "word", "path"] [] ((["path", "word", "name"] : List Str).zip ws) (permU [2, 1, 0] ws) := fun vs h => match vs, h with | [v0, v1, v2], _ => fun _ _ _ _ _ _ _ _ => rfl
abbrev i_Unguarded : Stmt := clsInit (top 25)
theorem ini_Unguarded : IsInitN (defBody i_Unguarded) ["word", "index", "path"] := ⟨_, _, _, _, _, _, _, _, [⟨"word", _, _, _, _⟩, ⟨"index", _, _, _, _⟩, ⟨"path", _, _, _, _⟩], _, rfl, rfl, fun env => rfl⟩
theorem ss_Unguarded : SupSN (defArgs i_Unguarded) (defScope i_Unguarded) ["word", "index", "path"] := ⟨rfl, rfl, rfl, by decide +kernel, by decide +kernel, rfl, rfl, rfl, ⟨_, rfl, rfl⟩, by decide +kernel, by decide +kernel⟩
theorem bp_Unguarded : ∀ vs : List Value, vs.length = 3 → BindsI (defArgs i_Unguarded) (defBody i_Unguarded) (defScope i_Unguarded) ["word", "index", "path"] vs [] vs := fun vs h => match vs, h with | [v0, v1, v2], _ => fun _ _ _ _ _ _ _ _ => rfl
theorem bk_Unguarded : ∀ ws : List Value, ws.length = 3 → BindsI (defArgs i_Unguarded) (defBody i_Unguarded) (defScope i_Unguarded) ["word", "index", "path"] [] ((["word", "index", "path"] : List Str).zip ws) (permU [0, 1, 2] ws) := fun vs h => match vs, h with | [v0, v1, v2], _ => fun _ _ _ _ _ _ _ _ => rfl
theorem bk2_Unguarded : ∀ ws : List Value, ws.length = 3 → BindsI (defArgs i_Unguarded) (defBody i_Unguarded) (defScope i_Unguarded) ["word", "index", "path"] [] ((["path", "index", "word"] : List Str).zip ws) (permU [2, 1, 0] ws) := fun vs h => match vs, h with | [v0, v1, v2], _ => fun _ _ _ _ _ _ _ _ => rfl
end LW
set_option Elab.async false
set_option linter.all false
set_option maxRecDepth 100000
set_option maxHeartbeats 0
/-! H3, printed by genH.py: k00's head: what it tells, its run -/
namespace LW
open PySem PySem.Spec PyProof.Rows L2 SupX He HeY
def fnY : List DefD := ([⟨("_law_draw", none), "_law_draw", "_law_draw", defArgs (top 55), defBody (top 55), defScope (top 55), [], []⟩, ⟨("_law_pick", none), "_law_pick", "_law_pick", defArgs (top 56), defBody (top 56), defScope (top 56), [], []⟩, ⟨("_law_same", none), "_law_same", "_law_same", defArgs (top 59), defBody (top 59), defScope (top 59), [], []⟩, ⟨("_law_very", none), "_law_very", "_law_very", defArgs (top 58), defBody (top 58), defScope (top 58), [], []⟩, ⟨("_law_e_drawn", none), "_law_e_drawn", "_law_e_drawn", defArgs (top 65), defBody (top 65), defScope (top 65), [], []⟩, ⟨("_law_spring", none), "_law_spring", "_law_spring", defArgs (top 54), defBody (top 54), defScope (top 54), [], []⟩, ⟨("_law_e_first", none), "_law_e_first", "_law_e_first", defArgs (top 60), defBody (top 60), defScope (top 60), [], []⟩, ⟨("_law_e_second", none), "_law_e_second", "_law_e_second", defArgs (top 61), defBody (top 61), defScope (top 61), [], []⟩, ⟨("_law_e_third", none), "_law_e_third", "_law_e_third", defArgs (top 62), defBody (top 62), defScope (top 62), [], []⟩, ⟨("_law_e_fourth", none), "_law_e_fourth", "_law_e_fourth", defArgs (top 63), defBody (top 63), defScope (top 63), [], []⟩, ⟨("_law_e_kinds", none), "_law_e_kinds", "_law_e_kinds", defArgs (top 64), defBody (top 64), defScope (top 64), [], []⟩, ⟨("_law_e_right", none), "_law_e_right", "_law_e_right", defArgs (top 66), defBody (top 66), defScope (top 66), [], []⟩, ⟨("_law_e_breaks", none), "_law_e_breaks", "_law_e_breaks", defArgs (top 67), defBody (top 67), defScope (top 67), [], []⟩, ⟨("law", none), "law", "law", defArgs (top 68), defBody (top 68), defScope (top 68), [], []⟩] : List DefD)
def faY : List Fa := ([.glo "_law_draw", .glo "_law_pick", .glo "_law_same", .glo "_law_very", .glo "_law_e_drawn", .glo "_law_spring", .glo "_law_e_first", .glo "_law_e_second", .glo "_law_e_third", .glo "_law_e_fourth", .glo "_law_e_kinds", .glo "_law_e_right", .glo "_law_e_breaks", .glo "law", .glo "MillError", .free "all", .free "bool", .free "dict", .free "int", .free "isinstance", .free "len", .free "list", .free "range", .free "str", .free "tuple", .free "zip", .free "enumerate", .free "any", .free "ValueError"] : List Fa)
def tfY : List Defn := [("_law_e_first", none), ("_law_e_second", none), ("_law_e_third", none), ("_law_e_fourth", none)]
def qI (c : Str) : Str := c ++ ".__init__"
def clsOkB (K : PySem.W.Frag) (p : Str × List Str) : Bool := supBN PySem.Challenge.pw_seriesmill_k00_errors_made K "MillError" p.1 (qI p.1) p.2 && excB K (ga K p.1)
def millB (K : PySem.W.Frag) : Bool := (PySem.W.clsIn K (ga K "MillError")).isSome && (PySem.W.typeIn K (.ref (ga K "MillError")) == some (.type "type"))
def exA (K : PySem.W.Frag) : Bool := allB K && (millB K && (cT.take 21).all fun p => clsOkB K p)
def exB (K : PySem.W.Frag) : Bool := ((cT.drop 21).all fun p => clsOkB K p) && (decide ((ga K "MillError" :: cT.map fun p => ga K p.1).Nodup) && decide ((tfY.map fun p => (He.cT K p).2).Nodup))
def exY (K : PySem.W.Frag) : Bool := exA K && exB K
def iniY : List (Str × FnI) := ([("BadQuestion", some (("__init__" : Str), qI "BadQuestion", defArgs i_BadQuestion, .stmts (defBody i_BadQuestion), defScope i_BadQuestion, mainGlobals, builtinsNs)), ("BadCode", some (("__init__" : Str), qI "BadCode", defArgs i_BadCode, .stmts (defBody i_BadCode), defScope i_BadCode, mainGlobals, builtinsNs)), ("Unrun", some (("__init__" : Str), qI "Unrun", defArgs i_Unrun, .stmts (defBody i_Unrun), defScope i_Unrun, mainGlobals, builtinsNs)), ("BadRatio", some (("__init__" : Str), qI "BadRatio", defArgs i_BadRatio, .stmts (defBody i_BadRatio), defScope i_BadRatio, mainGlobals, builtinsNs)), ("Nought", some (("__init__" : Str), qI "Nought", defArgs i_Nought, .stmts (defBody i_Nought), defScope i_Nought, mainGlobals, builtinsNs)), ("BadPoly", some (("__init__" : Str), qI "BadPoly", defArgs i_BadPoly, .stmts (defBody i_BadPoly), defScope i_BadPoly, mainGlobals, builtinsNs)), ("BadTree", some (("__init__" : Str), qI "BadTree", defArgs i_BadTree, .stmts (defBody i_BadTree), defScope i_BadTree, mainGlobals, builtinsNs)), ("BadPath", some (("__init__" : Str), qI "BadPath", defArgs i_BadPath, .stmts (defBody i_BadPath), defScope i_BadPath, mainGlobals, builtinsNs))] : List (Str × FnI)) ++ ([("BadBook", some (("__init__" : Str), qI "BadBook", defArgs i_BadBook, .stmts (defBody i_BadBook), defScope i_BadBook, mainGlobals, builtinsNs)), ("NoName", some (("__init__" : Str), qI "NoName", defArgs i_NoName, .stmts (defBody i_NoName), defScope i_NoName, mainGlobals, builtinsNs)), ("TooGreat", some (("__init__" : Str), qI "TooGreat", defArgs i_TooGreat, .stmts (defBody i_TooGreat), defScope i_TooGreat, mainGlobals, builtinsNs)), ("Refused", some (("__init__" : Str), qI "Refused", defArgs i_Refused, .stmts (defBody i_Refused), defScope i_Refused, mainGlobals, builtinsNs)), ("BadNumber", some (("__init__" : Str), qI "BadNumber", defArgs i_BadNumber, .stmts (defBody i_BadNumber), defScope i_BadNumber, mainGlobals, builtinsNs)), ("BadRow", some (("__init__" : Str), qI "BadRow", defArgs i_BadRow, .stmts (defBody i_BadRow), defScope i_BadRow, mainGlobals, builtinsNs)), ("BadSize", some (("__init__" : Str), qI "BadSize", defArgs i_BadSize, .stmts (defBody i_BadSize), defScope i_BadSize, mainGlobals, builtinsNs)), ("TooShort", some (("__init__" : Str), qI "TooShort", defArgs i_TooShort, .stmts (defBody i_TooShort), defScope i_TooShort, mainGlobals, builtinsNs))] : List (Str × FnI)) ++ ([("BadWord", some (("__init__" : Str), qI "BadWord", defArgs i_BadWord, .stmts (defBody i_BadWord), defScope i_BadWord, mainGlobals, builtinsNs)), ("BadLines", some (("__init__" : Str), qI "BadLines", defArgs i_BadLines, .stmts (defBody i_BadLines), defScope i_BadLines, mainGlobals, builtinsNs)), ("BadLoop", some (("__init__" : Str), qI "BadLoop", defArgs i_BadLoop, .stmts (defBody i_BadLoop), defScope i_BadLoop, mainGlobals, builtinsNs)), ("BadChain", some (("__init__" : Str), qI "BadChain", defArgs i_BadChain, .stmts (defBody i_BadChain), defScope i_BadChain, mainGlobals, builtinsNs)), ("BadMove", some (("__init__" : Str), qI "BadMove", defArgs i_BadMove, .stmts (defBody i_BadMove), defScope i_BadMove, mainGlobals, builtinsNs)), ("Unfit", some (("__init__" : Str), qI "Unfit", defArgs i_Unfit, .stmts (defBody i_Unfit), defScope i_Unfit, mainGlobals, builtinsNs)), ("BadName", some (("__init__" : Str), qI "BadName", defArgs i_BadName, .stmts (defBody i_BadName), defScope i_BadName, mainGlobals, builtinsNs)), ("Taken", some (("__init__" : Str), qI "Taken", defArgs i_Taken, .stmts (defBody i_Taken), defScope i_Taken, mainGlobals, builtinsNs))] : List (Str × FnI)) ++ ([("Crowded", some (("__init__" : Str), qI "Crowded", defArgs i_Crowded, .stmts (defBody i_Crowded), defScope i_Crowded, mainGlobals, builtinsNs)), ("BadStep", some (("__init__" : Str), qI "BadStep", defArgs i_BadStep, .stmts (defBody i_BadStep), defScope i_BadStep, mainGlobals, builtinsNs)), ("BadSteps", some (("__init__" : Str), qI "BadSteps", defArgs i_BadSteps, .stmts (defBody i_BadSteps), defScope i_BadSteps, mainGlobals, builtinsNs)), ("Barred", some (("__init__" : Str), qI "Barred", defArgs i_Barred, .stmts (defBody i_Barred), defScope i_Barred, mainGlobals, builtinsNs)), ("BadPaper", some (("__init__" : Str), qI "BadPaper", defArgs i_BadPaper, .stmts (defBody i_BadPaper), defScope i_BadPaper, mainGlobals, builtinsNs)), ("BadJournal", some (("__init__" : Str), qI "BadJournal", defArgs i_BadJournal, .stmts (defBody i_BadJournal), defScope i_BadJournal, mainGlobals, builtinsNs)), ("BadOperator", some (("__init__" : Str), qI "BadOperator", defArgs i_BadOperator, .stmts (defBody i_BadOperator), defScope i_BadOperator, mainGlobals, builtinsNs)), ("BadRule", some (("__init__" : Str), qI "BadRule", defArgs i_BadRule, .stmts (defBody i_BadRule), defScope i_BadRule, mainGlobals, builtinsNs))] : List (Str × FnI)) ++ ([("Stuck", some (("__init__" : Str), qI "Stuck", defArgs i_Stuck, .stmts (defBody i_Stuck), defScope i_Stuck, mainGlobals, builtinsNs)), ("Unright", some (("__init__" : Str), qI "Unright", defArgs i_Unright, .stmts (defBody i_Unright), defScope i_Unright, mainGlobals, builtinsNs)), ("Used", some (("__init__" : Str), qI "Used", defArgs i_Used, .stmts (defBody i_Used), defScope i_Used, mainGlobals, builtinsNs)), ("BadText", some (("__init__" : Str), qI "BadText", defArgs i_BadText, .stmts (defBody i_BadText), defScope i_BadText, mainGlobals, builtinsNs)), ("Unread", some (("__init__" : Str), qI "Unread", defArgs i_Unread, .stmts (defBody i_Unread), defScope i_Unread, mainGlobals, builtinsNs)), ("NothingDone", some (("__init__" : Str), qI "NothingDone", defArgs i_NothingDone, .stmts (defBody i_NothingDone), defScope i_NothingDone, mainGlobals, builtinsNs)), ("NothingUndone", some (("__init__" : Str), qI "NothingUndone", defArgs i_NothingUndone, .stmts (defBody i_NothingUndone), defScope i_NothingUndone, mainGlobals, builtinsNs)), ("Breaks", some (("__init__" : Str), qI "Breaks", defArgs i_Breaks, .stmts (defBody i_Breaks), defScope i_Breaks, mainGlobals, builtinsNs))] : List (Str × FnI)) ++ ([("Unguarded", some (("__init__" : Str), qI "Unguarded", defArgs i_Unguarded, .stmts (defBody i_Unguarded), defScope i_Unguarded, mainGlobals, builtinsNs))] : List (Str × FnI))
abbrev RY : PySem.W.OpenRow := PySem.W.OpenLaw.row PySem.Challenge.rw_seriesmill_k00_errors_made
abbrev hkY : PySem.W.Hook := hookY 5 faY fnY tfY exY iniY
def obY_ (s : PySem.W.SharedT) : AlY := obsY 5 faY fnY tfY exY iniY (HandSHeadRun.getT s)
theorem obY_eq (s : PySem.W.SharedT) : obY_ s = hkY.obs s.abs := obsY_eq (HandSHeadRun.getT_eq s)
def looseY : List PySem.Str := (["MillError", "BadRatio", "Nought", "BadPoly", "BadTree", "BadPath", "BadBook", "NoName", "TooGreat", "Refused", "BadNumber", "BadQuestion", "BadCode", "Unrun", "BadRow", "BadSize", "TooShort", "BadWord", "BadLines", "Unguarded", "BadLoop", "BadChain", "BadMove", "Unfit", "BadName", "Taken", "Crowded", "Unright", "Breaks", "Used"] : List PySem.Str) ++ (["NothingDone", "NothingUndone", "BadStep", "BadSteps", "Barred", "BadText", "BadPaper", "BadJournal", "BadOperator", "Unread", "BadRule", "Stuck", "_law_spring", "_law_draw", "_law_pick", "_law_mixed", "_law_very", "_law_same", "_law_e_first", "_law_e_second", "_law_e_third", "_law_e_fourth", "_law_e_kinds", "_law_e_drawn", "_law_e_right", "_law_e_breaks"] : List PySem.Str)
theorem run1 (w : World) (os : OsState) : (HandSHeadRun.endF (HandSHeadRun.stepQ (HandSHeadRun.denQ HandSHeadRun.tabQ) RY.prog w) 20000 RY.prog w os).map (fun s => (HandSHeadRun.looksF RY.prog (PySem.W.boot_heap w.params) s.abs, HandSHeadRun.seenQ (PySem.W.view RY.prog [68]) looseY (importedModules RY.prog.main.body) (fun s => PySem.W.xlAt (PySem.W.view RY.prog [68]) [] s && PySem.W.recOk RY.toRowW.records s) s.abs)) = some (true, (PySem.W.openGood (PySem.W.view RY.prog [68]) looseY)) := by
  kernel_rfl
theorem run2 (w : World) (os : OsState) : (HandSHeadRun.endF (HandSHeadRun.stepQ (HandSHeadRun.denQ HandSHeadRun.tabQ) RY.prog w) 20000 RY.prog w os).map (fun s => (obsD faY fnY (frY (HandSHeadRun.getT s) 5), tabsB (HandSHeadRun.getT s) tfY (frY (HandSHeadRun.getT s) 5))) = some (valD fnY, true) := by
  kernel_rfl
theorem run3 (w : World) (os : OsState) : (HandSHeadRun.endF (HandSHeadRun.stepQ (HandSHeadRun.denQ HandSHeadRun.tabQ) RY.prog w) 20000 RY.prog w os).map (fun s => exA (frY (HandSHeadRun.getT s) 5)) = some true := by
  kernel_rfl
theorem run4 (w : World) (os : OsState) : (HandSHeadRun.endF (HandSHeadRun.stepQ (HandSHeadRun.denQ HandSHeadRun.tabQ) RY.prog w) 20000 RY.prog w os).map (fun s => exB (frY (HandSHeadRun.getT s) 5)) = some true := by
  kernel_rfl
theorem run5 (w : World) (os : OsState) : (HandSHeadRun.endF (HandSHeadRun.stepQ (HandSHeadRun.denQ HandSHeadRun.tabQ) RY.prog w) 20000 RY.prog w os).map (fun s => iniY.map fun p => fnI (frY (HandSHeadRun.getT s) 5) p.1) = some (iniY.map fun p => p.2) := by
  kernel_rfl
theorem joinY {α A B : Type} {o : Option α} {f : α → A} {g : α → B} {a : A} {b : B} (h1 : o.map f = some a) (h2 : o.map g = some b) : o.map (fun s => (f s, g s)) = some (a, b) := by
  cases o with
  | none => cases h1
  | some s =>
    have e1 : f s = a := Option.some.inj h1
    have e2 : g s = b := Option.some.inj h2
    subst e1 e2
    rfl
theorem fstY {α A B : Type} {o : Option α} {f : α → A} {g : α → B} {a : A} {b : B} (h : o.map (fun s => (f s, g s)) = some (a, b)) : o.map f = some a ∧ o.map g = some b := by
  cases o with
  | none => cases h
  | some s =>
    have e : (f s, g s) = (a, b) := Option.some.inj h
    obtain ⟨e1, e2⟩ := Prod.mk.inj e
    subst e1 e2
    exact ⟨rfl, rfl⟩
theorem andY {α : Type} {o : Option α} {f g : α → Bool} (h1 : o.map f = some true) (h2 : o.map g = some true) : o.map (fun s => f s && g s) = some true := by
  cases o with
  | none => cases h1
  | some s =>
    have e1 : f s = true := Option.some.inj h1
    have e2 : g s = true := Option.some.inj h2
    show some (f s && g s) = some true
    rw [e1, e2]
    rfl
theorem runY (w : World) : HandSHeadRun.RunEq RY (PySem.W.view RY.prog [68]) hkY obY_ 20000 looseY w := by
  intro os
  obtain ⟨h1, h2⟩ := fstY (run1 w os)
  obtain ⟨h3, h4⟩ := fstY (run2 w os)
  change (HandSHeadRun.endF (HandSHeadRun.stepQ (HandSHeadRun.denQ HandSHeadRun.tabQ) RY.prog w) 20000 RY.prog w os).map (fun s => (HandSHeadRun.looksF RY.prog (PySem.W.boot_heap w.params) s.abs, HandSHeadRun.seenQ (PySem.W.view RY.prog [68]) looseY (importedModules RY.prog.main.body) (fun s => PySem.W.xlAt (PySem.W.view RY.prog [68]) [] s && PySem.W.recOk RY.toRowW.records s) s.abs, (obsD faY fnY (frY (HandSHeadRun.getT s) 5), (exA (frY (HandSHeadRun.getT s) 5) && exB (frY (HandSHeadRun.getT s) 5)) && tabsB (HandSHeadRun.getT s) tfY (frY (HandSHeadRun.getT s) 5), iniY.map fun p => fnI (frY (HandSHeadRun.getT s) 5) p.1))) = some (true, (PySem.W.openGood (PySem.W.view RY.prog [68]) looseY), (valD fnY, true, iniY.map fun p => p.2))
  exact joinY h1 (joinY h2 (joinY h3 (joinY (andY (andY (run3 w os) (run4 w os)) h4) (run5 w os))))
end LW
set_option Elab.async false
set_option linter.all false
set_option maxRecDepth 100000
set_option maxHeartbeats 0
/-! H4, printed by genH.py: k00's end -/
namespace LW
open PySem PySem.Spec PyProof.Rows L2 RT RZ Ev LamX LamD SupX He HeY
def nmY : Nat → Str
  | 27 => "_law_draw"
  | 28 => "_law_pick"
  | 30 => "_law_same"
  | 45 => "_law_very"
  | 46 => "_law_e_drawn"
  | _ => ""
abbrev aY (K : PySem.W.Frag) (i : Nat) : Addr := ga K (nmY i)
abbrev fY (K : PySem.W.Frag) (i : Nat) : FuncData := fdOf K (aY K i)
def hnY : Nat → Str
  | 0 => "_law_spring"
  | 1 => "_law_e_first"
  | 2 => "_law_e_second"
  | 3 => "_law_e_third"
  | 4 => "_law_e_fourth"
  | 5 => "_law_e_kinds"
  | 6 => "_law_e_right"
  | 7 => "_law_e_breaks"
  | _ => ""
abbrev haY (K : PySem.W.Frag) (i : Nat) : Addr := ga K (hnY i)
abbrev hfY (K : PySem.W.Frag) (i : Nat) : FuncData := fdOf K (haY K i)
def nC (i : Nat) : Str := ((cT[i]?).map (·.1)).getD ""
abbrev caY (K : PySem.W.Frag) (i : Nat) : Addr := ga K (nC i)
abbrev PY : Program := PySem.Challenge.pw_seriesmill_k00_errors_made
section
variable {P : Program} {w : World} {K : PySem.W.Frag} {mg : Str → Option Value} {base : Heap} {a : Nat → Addr} {fd : Nat → FuncData} {h : Heap}
theorem goodY (T : Txt K mg a fd) : ∀ n, Good P w K mg base a fd n
  | 0 => ⟨fn_zero, fn_zero, fn_zero, fn_zero, fn_zero⟩
  | n + 1 => have g := goodY T n
    ⟨st__law_draw g T, st__law_pick g T, st__law_same g T, st__law_very g T, st__law_e_drawn g T⟩
theorem exY_all (hx : exY K = true) : allB K = true ∧ millB K = true ∧ (∀ p ∈ cT, clsOkB K p = true) ∧ (ga K "MillError" :: cT.map fun p => ga K p.1).Nodup ∧ (tfY.map fun p => (He.cT K p).2).Nodup := by
  unfold exY exA exB at hx
  simp only [Bool.and_eq_true, decide_eq_true_eq] at hx
  obtain ⟨⟨a1, a2, a3⟩, b1, b2, b3⟩ := hx
  refine ⟨a1, a2, fun p hp => ?_, b2, b3⟩
  rw [← List.take_append_drop 21 cT] at hp
  rcases List.mem_append.mp hp with hp | hp
  · exact List.all_eq_true.mp a3 p hp
  · exact List.all_eq_true.mp b1 p hp
theorem sup_facts {m cn qual : Str} {fs : List Str} (hb : supBN P K m cn qual fs = true) : (∀ f ∈ fs, PySem.W.findIn K (.ref (ga K cn)) f = some none) ∧ PySem.W.nsIn K mainGlobals cn = some (some (.ref (ga K cn))) ∧ (PySem.W.clsIn K (ga K cn)).map (·.mro) = some (.ref (ga K cn) :: .ref (ga K m) :: veBase) ∧ PySem.W.typeIn K (.ref (ga K cn)) = some (.type "type") := by
  unfold supBN at hb
  simp only [Bool.and_eq_true, decide_eq_true_eq, List.all_eq_true] at hb
  obtain ⟨_, _, _, h4, _, _, _, hg2, _, _, _, h13, h14⟩ := hb
  exact ⟨h4, hg2, h13, h14⟩
theorem sub_mro {C m : Addr} {v : Value} (hC : (PySem.W.clsIn K C).map (·.mro) = some (.ref C :: .ref m :: veBase)) : PySem.W.subIn K (.ref C) v = some ((Value.ref C :: .ref m :: veBase).contains v) := by
  obtain ⟨cd, hc, hm⟩ := Option.map_eq_some_iff.mp hC
  show PySem.W.mroIn K C v = _
  unfold PySem.W.mroIn
  rw [hc]
  show (if cd.mro.isEmpty then none else some (cd.mro.contains v)) = _
  rw [hm]
  rfl
theorem kit_of {C D m : Addr} (hC : (PySem.W.clsIn K C).map (·.mro) = some (.ref C :: .ref m :: veBase)) (hD : (PySem.W.clsIn K D).isSome = true) (tD : PySem.W.typeIn K (.ref D) = some (.type "type")) : PySem.W.kitOne K (.ref C) (.ref D) = some (decide (C = D ∨ D = m)) := by
  unfold PySem.W.kitOne
  by_cases e : C = D
  · subst e
    rw [if_pos (by simp)]
    simp
  · rw [if_neg (by simpa using e)]
    show (if ((PySem.W.clsIn K D).isSome && PySem.W.typeIn K (.ref D) == some (.type "type")) = true then PySem.W.subIn K (.ref C) (.ref D) else none) = _
    rw [hD, tD, if_pos (by simp), sub_mro hC]
    by_cases e2 : D = m
    · subst e2
      simp
    · have ne : ¬ D = C := fun z => e z.symm
      simp [e, e2, ne, veBase]
theorem kit_ve {C m : Addr} (hC : (PySem.W.clsIn K C).map (·.mro) = some (.ref C :: .ref m :: veBase)) : PySem.W.kitOne K (.ref C) (.type "ValueError") = some true := by
  unfold PySem.W.kitOne
  rw [if_neg (by simp)]
  show (if PySem.W.kitMeta "ValueError" = true then PySem.W.subIn K (.ref C) (.type "ValueError") else none) = _
  rw [if_pos (by decide +kernel), sub_mro hC]
  simp [veBase]
theorem nC_of {i : Nat} {n : Str} {fs : List Str} (h : cT[i]? = some (n, fs)) : nC i = n := by
  unfold nC
  rw [h]
  rfl
theorem nC_lt {i : Nat} (h : i < 41) : ∃ fs, cT[i]? = some (nC i, fs) := by
  obtain ⟨n, e⟩ := cT_get h
  exact ⟨_, by rw [nC_of e]; exact e⟩
theorem txtY (X : K.In h) (G : h.Ns mainGlobals mg) (c : SaysY faY fnY tfY exY iniY h K) : Txt K mg (aY K) (fY K) where
  d__law_draw := funD_at (c.d.def_ 0 (d := ⟨("_law_draw", none), "_law_draw", "_law_draw", defArgs (top 55), defBody (top 55), defScope (top 55), [], []⟩) rfl)
  m__law_draw := glo_ok X G (c.d.fact 0 (f := .glo "_law_draw") rfl)
  d__law_pick := funD_at (c.d.def_ 1 (d := ⟨("_law_pick", none), "_law_pick", "_law_pick", defArgs (top 56), defBody (top 56), defScope (top 56), [], []⟩) rfl)
  m__law_pick := glo_ok X G (c.d.fact 1 (f := .glo "_law_pick") rfl)
  d__law_same := funD_at (c.d.def_ 2 (d := ⟨("_law_same", none), "_law_same", "_law_same", defArgs (top 59), defBody (top 59), defScope (top 59), [], []⟩) rfl)
  m__law_same := glo_ok X G (c.d.fact 2 (f := .glo "_law_same") rfl)
  d__law_very := funD_at (c.d.def_ 3 (d := ⟨("_law_very", none), "_law_very", "_law_very", defArgs (top 58), defBody (top 58), defScope (top 58), [], []⟩) rfl)
  m__law_very := glo_ok X G (c.d.fact 3 (f := .glo "_law_very") rfl)
  d__law_e_drawn := funD_at (c.d.def_ 4 (d := ⟨("_law_e_drawn", none), "_law_e_drawn", "_law_e_drawn", defArgs (top 65), defBody (top 65), defScope (top 65), [], []⟩) rfl)
  m__law_e_drawn := glo_ok X G (c.d.fact 4 (f := .glo "_law_e_drawn") rfl)
  f_all := free_ok X G (c.d.fact 15 (f := .free "all") rfl)
  f_bool := free_ok X G (c.d.fact 16 (f := .free "bool") rfl)
  f_dict := free_ok X G (c.d.fact 17 (f := .free "dict") rfl)
  f_int := free_ok X G (c.d.fact 18 (f := .free "int") rfl)
  f_isinstance := free_ok X G (c.d.fact 19 (f := .free "isinstance") rfl)
  f_len := free_ok X G (c.d.fact 20 (f := .free "len") rfl)
  f_list := free_ok X G (c.d.fact 21 (f := .free "list") rfl)
  f_range := free_ok X G (c.d.fact 22 (f := .free "range") rfl)
  f_str := free_ok X G (c.d.fact 23 (f := .free "str") rfl)
  f_tuple := free_ok X G (c.d.fact 24 (f := .free "tuple") rfl)
  f_zip := free_ok X G (c.d.fact 25 (f := .free "zip") rfl)
theorem okc_BadQuestion (X : K.In h) (G : h.Ns mainGlobals mg) (c : SaysY faY fnY tfY exY iniY h K) : ∃ fI cda cc, ClsN PY K mg "BadQuestion" (ga K "BadQuestion") fI cda cc (qI "BadQuestion") (defArgs i_BadQuestion) (defBody i_BadQuestion) (defScope i_BadQuestion) ["question"] := by
  obtain ⟨a1, _, a3, _⟩ := exY_all c.more
  have b := (Bool.and_eq_true_iff.mp (a3 ("BadQuestion", ["question"]) (List.mem_of_getElem? (i := 0) rfl))).1
  exact supClsN_of a1 b (c.ini ("BadQuestion", some (("__init__" : Str), qI "BadQuestion", defArgs i_BadQuestion, .stmts (defBody i_BadQuestion), defScope i_BadQuestion, mainGlobals, builtinsNs)) (List.mem_of_getElem? (i := 0) rfl)) ss_BadQuestion ini_BadQuestion (by decide) (glo_ok X G (decide_eq_true (sup_facts b).2.1)) rfl
theorem ok_BadQuestion (X : K.In h) (G : h.Ns mainGlobals mg) (c : SaysY faY fnY tfY exY iniY h K) : ClsOk PY K mg "BadQuestion" (ga K "BadQuestion") ["question"] ["question"] (List.range 1) := by
  obtain ⟨fI, cda, cc, T⟩ := okc_BadQuestion X G c
  exact ⟨fI, cda, cc, _, _, _, _, T, bp_BadQuestion, bk_BadQuestion, rfl⟩
theorem okc_BadCode (X : K.In h) (G : h.Ns mainGlobals mg) (c : SaysY faY fnY tfY exY iniY h K) : ∃ fI cda cc, ClsN PY K mg "BadCode" (ga K "BadCode") fI cda cc (qI "BadCode") (defArgs i_BadCode) (defBody i_BadCode) (defScope i_BadCode) ["code"] := by
  obtain ⟨a1, _, a3, _⟩ := exY_all c.more
  have b := (Bool.and_eq_true_iff.mp (a3 ("BadCode", ["code"]) (List.mem_of_getElem? (i := 1) rfl))).1
  exact supClsN_of a1 b (c.ini ("BadCode", some (("__init__" : Str), qI "BadCode", defArgs i_BadCode, .stmts (defBody i_BadCode), defScope i_BadCode, mainGlobals, builtinsNs)) (List.mem_of_getElem? (i := 1) rfl)) ss_BadCode ini_BadCode (by decide) (glo_ok X G (decide_eq_true (sup_facts b).2.1)) rfl
theorem ok_BadCode (X : K.In h) (G : h.Ns mainGlobals mg) (c : SaysY faY fnY tfY exY iniY h K) : ClsOk PY K mg "BadCode" (ga K "BadCode") ["code"] ["code"] (List.range 1) := by
  obtain ⟨fI, cda, cc, T⟩ := okc_BadCode X G c
  exact ⟨fI, cda, cc, _, _, _, _, T, bp_BadCode, bk_BadCode, rfl⟩
theorem okc_Unrun (X : K.In h) (G : h.Ns mainGlobals mg) (c : SaysY faY fnY tfY exY iniY h K) : ∃ fI cda cc, ClsN PY K mg "Unrun" (ga K "Unrun") fI cda cc (qI "Unrun") (defArgs i_Unrun) (defBody i_Unrun) (defScope i_Unrun) ["index"] := by
  obtain ⟨a1, _, a3, _⟩ := exY_all c.more
  have b := (Bool.and_eq_true_iff.mp (a3 ("Unrun", ["index"]) (List.mem_of_getElem? (i := 2) rfl))).1
  exact supClsN_of a1 b (c.ini ("Unrun", some (("__init__" : Str), qI "Unrun", defArgs i_Unrun, .stmts (defBody i_Unrun), defScope i_Unrun, mainGlobals, builtinsNs)) (List.mem_of_getElem? (i := 2) rfl)) ss_Unrun ini_Unrun (by decide) (glo_ok X G (decide_eq_true (sup_facts b).2.1)) rfl
theorem ok_Unrun (X : K.In h) (G : h.Ns mainGlobals mg) (c : SaysY faY fnY tfY exY iniY h K) : ClsOk PY K mg "Unrun" (ga K "Unrun") ["index"] ["index"] (List.range 1) := by
  obtain ⟨fI, cda, cc, T⟩ := okc_Unrun X G c
  exact ⟨fI, cda, cc, _, _, _, _, T, bp_Unrun, bk_Unrun, rfl⟩
theorem okc_BadRatio (X : K.In h) (G : h.Ns mainGlobals mg) (c : SaysY faY fnY tfY exY iniY h K) : ∃ fI cda cc, ClsN PY K mg "BadRatio" (ga K "BadRatio") fI cda cc (qI "BadRatio") (defArgs i_BadRatio) (defBody i_BadRatio) (defScope i_BadRatio) ["ratio"] := by
  obtain ⟨a1, _, a3, _⟩ := exY_all c.more
  have b := (Bool.and_eq_true_iff.mp (a3 ("BadRatio", ["ratio"]) (List.mem_of_getElem? (i := 3) rfl))).1
  exact supClsN_of a1 b (c.ini ("BadRatio", some (("__init__" : Str), qI "BadRatio", defArgs i_BadRatio, .stmts (defBody i_BadRatio), defScope i_BadRatio, mainGlobals, builtinsNs)) (List.mem_of_getElem? (i := 3) rfl)) ss_BadRatio ini_BadRatio (by decide) (glo_ok X G (decide_eq_true (sup_facts b).2.1)) rfl
theorem ok_BadRatio (X : K.In h) (G : h.Ns mainGlobals mg) (c : SaysY faY fnY tfY exY iniY h K) : ClsOk PY K mg "BadRatio" (ga K "BadRatio") ["ratio"] ["ratio"] (List.range 1) := by
  obtain ⟨fI, cda, cc, T⟩ := okc_BadRatio X G c
  exact ⟨fI, cda, cc, _, _, _, _, T, bp_BadRatio, bk_BadRatio, rfl⟩
theorem okc_Nought (X : K.In h) (G : h.Ns mainGlobals mg) (c : SaysY faY fnY tfY exY iniY h K) : ∃ fI cda cc, ClsN PY K mg "Nought" (ga K "Nought") fI cda cc (qI "Nought") (defArgs i_Nought) (defBody i_Nought) (defScope i_Nought) ["ratio"] := by
  obtain ⟨a1, _, a3, _⟩ := exY_all c.more
  have b := (Bool.and_eq_true_iff.mp (a3 ("Nought", ["ratio"]) (List.mem_of_getElem? (i := 4) rfl))).1
  exact supClsN_of a1 b (c.ini ("Nought", some (("__init__" : Str), qI "Nought", defArgs i_Nought, .stmts (defBody i_Nought), defScope i_Nought, mainGlobals, builtinsNs)) (List.mem_of_getElem? (i := 4) rfl)) ss_Nought ini_Nought (by decide) (glo_ok X G (decide_eq_true (sup_facts b).2.1)) rfl
theorem ok_Nought (X : K.In h) (G : h.Ns mainGlobals mg) (c : SaysY faY fnY tfY exY iniY h K) : ClsOk PY K mg "Nought" (ga K "Nought") ["ratio"] ["ratio"] (List.range 1) := by
  obtain ⟨fI, cda, cc, T⟩ := okc_Nought X G c
  exact ⟨fI, cda, cc, _, _, _, _, T, bp_Nought, bk_Nought, rfl⟩
theorem okc_BadPoly (X : K.In h) (G : h.Ns mainGlobals mg) (c : SaysY faY fnY tfY exY iniY h K) : ∃ fI cda cc, ClsN PY K mg "BadPoly" (ga K "BadPoly") fI cda cc (qI "BadPoly") (defArgs i_BadPoly) (defBody i_BadPoly) (defScope i_BadPoly) ["poly"] := by
  obtain ⟨a1, _, a3, _⟩ := exY_all c.more
  have b := (Bool.and_eq_true_iff.mp (a3 ("BadPoly", ["poly"]) (List.mem_of_getElem? (i := 5) rfl))).1
  exact supClsN_of a1 b (c.ini ("BadPoly", some (("__init__" : Str), qI "BadPoly", defArgs i_BadPoly, .stmts (defBody i_BadPoly), defScope i_BadPoly, mainGlobals, builtinsNs)) (List.mem_of_getElem? (i := 5) rfl)) ss_BadPoly ini_BadPoly (by decide) (glo_ok X G (decide_eq_true (sup_facts b).2.1)) rfl
theorem ok_BadPoly (X : K.In h) (G : h.Ns mainGlobals mg) (c : SaysY faY fnY tfY exY iniY h K) : ClsOk PY K mg "BadPoly" (ga K "BadPoly") ["poly"] ["poly"] (List.range 1) := by
  obtain ⟨fI, cda, cc, T⟩ := okc_BadPoly X G c
  exact ⟨fI, cda, cc, _, _, _, _, T, bp_BadPoly, bk_BadPoly, rfl⟩
theorem okc_BadTree (X : K.In h) (G : h.Ns mainGlobals mg) (c : SaysY faY fnY tfY exY iniY h K) : ∃ fI cda cc, ClsN PY K mg "BadTree" (ga K "BadTree") fI cda cc (qI "BadTree") (defArgs i_BadTree) (defBody i_BadTree) (defScope i_BadTree) ["tree"] := by
  obtain ⟨a1, _, a3, _⟩ := exY_all c.more
  have b := (Bool.and_eq_true_iff.mp (a3 ("BadTree", ["tree"]) (List.mem_of_getElem? (i := 6) rfl))).1
  exact supClsN_of a1 b (c.ini ("BadTree", some (("__init__" : Str), qI "BadTree", defArgs i_BadTree, .stmts (defBody i_BadTree), defScope i_BadTree, mainGlobals, builtinsNs)) (List.mem_of_getElem? (i := 6) rfl)) ss_BadTree ini_BadTree (by decide) (glo_ok X G (decide_eq_true (sup_facts b).2.1)) rfl
theorem ok_BadTree (X : K.In h) (G : h.Ns mainGlobals mg) (c : SaysY faY fnY tfY exY iniY h K) : ClsOk PY K mg "BadTree" (ga K "BadTree") ["tree"] ["tree"] (List.range 1) := by
  obtain ⟨fI, cda, cc, T⟩ := okc_BadTree X G c
  exact ⟨fI, cda, cc, _, _, _, _, T, bp_BadTree, bk_BadTree, rfl⟩
theorem okc_BadPath (X : K.In h) (G : h.Ns mainGlobals mg) (c : SaysY faY fnY tfY exY iniY h K) : ∃ fI cda cc, ClsN PY K mg "BadPath" (ga K "BadPath") fI cda cc (qI "BadPath") (defArgs i_BadPath) (defBody i_BadPath) (defScope i_BadPath) ["path"] := by
  obtain ⟨a1, _, a3, _⟩ := exY_all c.more
  have b := (Bool.and_eq_true_iff.mp (a3 ("BadPath", ["path"]) (List.mem_of_getElem? (i := 7) rfl))).1
  exact supClsN_of a1 b (c.ini ("BadPath", some (("__init__" : Str), qI "BadPath", defArgs i_BadPath, .stmts (defBody i_BadPath), defScope i_BadPath, mainGlobals, builtinsNs)) (List.mem_of_getElem? (i := 7) rfl)) ss_BadPath ini_BadPath (by decide) (glo_ok X G (decide_eq_true (sup_facts b).2.1)) rfl
theorem ok_BadPath (X : K.In h) (G : h.Ns mainGlobals mg) (c : SaysY faY fnY tfY exY iniY h K) : ClsOk PY K mg "BadPath" (ga K "BadPath") ["path"] ["path"] (List.range 1) := by
  obtain ⟨fI, cda, cc, T⟩ := okc_BadPath X G c
  exact ⟨fI, cda, cc, _, _, _, _, T, bp_BadPath, bk_BadPath, rfl⟩
theorem okc_BadBook (X : K.In h) (G : h.Ns mainGlobals mg) (c : SaysY faY fnY tfY exY iniY h K) : ∃ fI cda cc, ClsN PY K mg "BadBook" (ga K "BadBook") fI cda cc (qI "BadBook") (defArgs i_BadBook) (defBody i_BadBook) (defScope i_BadBook) ["book"] := by
  obtain ⟨a1, _, a3, _⟩ := exY_all c.more
  have b := (Bool.and_eq_true_iff.mp (a3 ("BadBook", ["book"]) (List.mem_of_getElem? (i := 8) rfl))).1
  exact supClsN_of a1 b (c.ini ("BadBook", some (("__init__" : Str), qI "BadBook", defArgs i_BadBook, .stmts (defBody i_BadBook), defScope i_BadBook, mainGlobals, builtinsNs)) (List.mem_of_getElem? (i := 8) rfl)) ss_BadBook ini_BadBook (by decide) (glo_ok X G (decide_eq_true (sup_facts b).2.1)) rfl
theorem ok_BadBook (X : K.In h) (G : h.Ns mainGlobals mg) (c : SaysY faY fnY tfY exY iniY h K) : ClsOk PY K mg "BadBook" (ga K "BadBook") ["book"] ["book"] (List.range 1) := by
  obtain ⟨fI, cda, cc, T⟩ := okc_BadBook X G c
  exact ⟨fI, cda, cc, _, _, _, _, T, bp_BadBook, bk_BadBook, rfl⟩
theorem okc_NoName (X : K.In h) (G : h.Ns mainGlobals mg) (c : SaysY faY fnY tfY exY iniY h K) : ∃ fI cda cc, ClsN PY K mg "NoName" (ga K "NoName") fI cda cc (qI "NoName") (defArgs i_NoName) (defBody i_NoName) (defScope i_NoName) ["named"] := by
  obtain ⟨a1, _, a3, _⟩ := exY_all c.more
  have b := (Bool.and_eq_true_iff.mp (a3 ("NoName", ["named"]) (List.mem_of_getElem? (i := 9) rfl))).1
  exact supClsN_of a1 b (c.ini ("NoName", some (("__init__" : Str), qI "NoName", defArgs i_NoName, .stmts (defBody i_NoName), defScope i_NoName, mainGlobals, builtinsNs)) (List.mem_of_getElem? (i := 9) rfl)) ss_NoName ini_NoName (by decide) (glo_ok X G (decide_eq_true (sup_facts b).2.1)) rfl
theorem ok_NoName (X : K.In h) (G : h.Ns mainGlobals mg) (c : SaysY faY fnY tfY exY iniY h K) : ClsOk PY K mg "NoName" (ga K "NoName") ["named"] ["named"] (List.range 1) := by
  obtain ⟨fI, cda, cc, T⟩ := okc_NoName X G c
  exact ⟨fI, cda, cc, _, _, _, _, T, bp_NoName, bk_NoName, rfl⟩
theorem okc_TooGreat (X : K.In h) (G : h.Ns mainGlobals mg) (c : SaysY faY fnY tfY exY iniY h K) : ∃ fI cda cc, ClsN PY K mg "TooGreat" (ga K "TooGreat") fI cda cc (qI "TooGreat") (defArgs i_TooGreat) (defBody i_TooGreat) (defScope i_TooGreat) ["most"] := by
  obtain ⟨a1, _, a3, _⟩ := exY_all c.more
  have b := (Bool.and_eq_true_iff.mp (a3 ("TooGreat", ["most"]) (List.mem_of_getElem? (i := 10) rfl))).1
  exact supClsN_of a1 b (c.ini ("TooGreat", some (("__init__" : Str), qI "TooGreat", defArgs i_TooGreat, .stmts (defBody i_TooGreat), defScope i_TooGreat, mainGlobals, builtinsNs)) (List.mem_of_getElem? (i := 10) rfl)) ss_TooGreat ini_TooGreat (by decide) (glo_ok X G (decide_eq_true (sup_facts b).2.1)) rfl
theorem ok_TooGreat (X : K.In h) (G : h.Ns mainGlobals mg) (c : SaysY faY fnY tfY exY iniY h K) : ClsOk PY K mg "TooGreat" (ga K "TooGreat") ["most"] ["most"] (List.range 1) := by
  obtain ⟨fI, cda, cc, T⟩ := okc_TooGreat X G c
  exact ⟨fI, cda, cc, _, _, _, _, T, bp_TooGreat, bk_TooGreat, rfl⟩
theorem okc_Refused (X : K.In h) (G : h.Ns mainGlobals mg) (c : SaysY faY fnY tfY exY iniY h K) : ∃ fI cda cc, ClsN PY K mg "Refused" (ga K "Refused") fI cda cc (qI "Refused") (defArgs i_Refused) (defBody i_Refused) (defScope i_Refused) ["path"] := by
  obtain ⟨a1, _, a3, _⟩ := exY_all c.more
  have b := (Bool.and_eq_true_iff.mp (a3 ("Refused", ["path"]) (List.mem_of_getElem? (i := 11) rfl))).1
  exact supClsN_of a1 b (c.ini ("Refused", some (("__init__" : Str), qI "Refused", defArgs i_Refused, .stmts (defBody i_Refused), defScope i_Refused, mainGlobals, builtinsNs)) (List.mem_of_getElem? (i := 11) rfl)) ss_Refused ini_Refused (by decide) (glo_ok X G (decide_eq_true (sup_facts b).2.1)) rfl
theorem ok_Refused (X : K.In h) (G : h.Ns mainGlobals mg) (c : SaysY faY fnY tfY exY iniY h K) : ClsOk PY K mg "Refused" (ga K "Refused") ["path"] ["path"] (List.range 1) := by
  obtain ⟨fI, cda, cc, T⟩ := okc_Refused X G c
  exact ⟨fI, cda, cc, _, _, _, _, T, bp_Refused, bk_Refused, rfl⟩
theorem okc_BadNumber (X : K.In h) (G : h.Ns mainGlobals mg) (c : SaysY faY fnY tfY exY iniY h K) : ∃ fI cda cc, ClsN PY K mg "BadNumber" (ga K "BadNumber") fI cda cc (qI "BadNumber") (defArgs i_BadNumber) (defBody i_BadNumber) (defScope i_BadNumber) ["number"] := by
  obtain ⟨a1, _, a3, _⟩ := exY_all c.more
  have b := (Bool.and_eq_true_iff.mp (a3 ("BadNumber", ["number"]) (List.mem_of_getElem? (i := 12) rfl))).1
  exact supClsN_of a1 b (c.ini ("BadNumber", some (("__init__" : Str), qI "BadNumber", defArgs i_BadNumber, .stmts (defBody i_BadNumber), defScope i_BadNumber, mainGlobals, builtinsNs)) (List.mem_of_getElem? (i := 12) rfl)) ss_BadNumber ini_BadNumber (by decide) (glo_ok X G (decide_eq_true (sup_facts b).2.1)) rfl
theorem ok_BadNumber (X : K.In h) (G : h.Ns mainGlobals mg) (c : SaysY faY fnY tfY exY iniY h K) : ClsOk PY K mg "BadNumber" (ga K "BadNumber") ["number"] ["number"] (List.range 1) := by
  obtain ⟨fI, cda, cc, T⟩ := okc_BadNumber X G c
  exact ⟨fI, cda, cc, _, _, _, _, T, bp_BadNumber, bk_BadNumber, rfl⟩
theorem okc_BadRow (X : K.In h) (G : h.Ns mainGlobals mg) (c : SaysY faY fnY tfY exY iniY h K) : ∃ fI cda cc, ClsN PY K mg "BadRow" (ga K "BadRow") fI cda cc (qI "BadRow") (defArgs i_BadRow) (defBody i_BadRow) (defScope i_BadRow) ["row"] := by
  obtain ⟨a1, _, a3, _⟩ := exY_all c.more
  have b := (Bool.and_eq_true_iff.mp (a3 ("BadRow", ["row"]) (List.mem_of_getElem? (i := 13) rfl))).1
  exact supClsN_of a1 b (c.ini ("BadRow", some (("__init__" : Str), qI "BadRow", defArgs i_BadRow, .stmts (defBody i_BadRow), defScope i_BadRow, mainGlobals, builtinsNs)) (List.mem_of_getElem? (i := 13) rfl)) ss_BadRow ini_BadRow (by decide) (glo_ok X G (decide_eq_true (sup_facts b).2.1)) rfl
theorem ok_BadRow (X : K.In h) (G : h.Ns mainGlobals mg) (c : SaysY faY fnY tfY exY iniY h K) : ClsOk PY K mg "BadRow" (ga K "BadRow") ["row"] ["row"] (List.range 1) := by
  obtain ⟨fI, cda, cc, T⟩ := okc_BadRow X G c
  exact ⟨fI, cda, cc, _, _, _, _, T, bp_BadRow, bk_BadRow, rfl⟩
theorem okc_BadSize (X : K.In h) (G : h.Ns mainGlobals mg) (c : SaysY faY fnY tfY exY iniY h K) : ∃ fI cda cc, ClsN PY K mg "BadSize" (ga K "BadSize") fI cda cc (qI "BadSize") (defArgs i_BadSize) (defBody i_BadSize) (defScope i_BadSize) ["size"] := by
  obtain ⟨a1, _, a3, _⟩ := exY_all c.more
  have b := (Bool.and_eq_true_iff.mp (a3 ("BadSize", ["size"]) (List.mem_of_getElem? (i := 14) rfl))).1
  exact supClsN_of a1 b (c.ini ("BadSize", some (("__init__" : Str), qI "BadSize", defArgs i_BadSize, .stmts (defBody i_BadSize), defScope i_BadSize, mainGlobals, builtinsNs)) (List.mem_of_getElem? (i := 14) rfl)) ss_BadSize ini_BadSize (by decide) (glo_ok X G (decide_eq_true (sup_facts b).2.1)) rfl
theorem ok_BadSize (X : K.In h) (G : h.Ns mainGlobals mg) (c : SaysY faY fnY tfY exY iniY h K) : ClsOk PY K mg "BadSize" (ga K "BadSize") ["size"] ["size"] (List.range 1) := by
  obtain ⟨fI, cda, cc, T⟩ := okc_BadSize X G c
  exact ⟨fI, cda, cc, _, _, _, _, T, bp_BadSize, bk_BadSize, rfl⟩
theorem okc_TooShort (X : K.In h) (G : h.Ns mainGlobals mg) (c : SaysY faY fnY tfY exY iniY h K) : ∃ fI cda cc, ClsN PY K mg "TooShort" (ga K "TooShort") fI cda cc (qI "TooShort") (defArgs i_TooShort) (defBody i_TooShort) (defScope i_TooShort) ["row"] := by
  obtain ⟨a1, _, a3, _⟩ := exY_all c.more
  have b := (Bool.and_eq_true_iff.mp (a3 ("TooShort", ["row"]) (List.mem_of_getElem? (i := 15) rfl))).1
  exact supClsN_of a1 b (c.ini ("TooShort", some (("__init__" : Str), qI "TooShort", defArgs i_TooShort, .stmts (defBody i_TooShort), defScope i_TooShort, mainGlobals, builtinsNs)) (List.mem_of_getElem? (i := 15) rfl)) ss_TooShort ini_TooShort (by decide) (glo_ok X G (decide_eq_true (sup_facts b).2.1)) rfl
theorem ok_TooShort (X : K.In h) (G : h.Ns mainGlobals mg) (c : SaysY faY fnY tfY exY iniY h K) : ClsOk PY K mg "TooShort" (ga K "TooShort") ["row"] ["row"] (List.range 1) := by
  obtain ⟨fI, cda, cc, T⟩ := okc_TooShort X G c
  exact ⟨fI, cda, cc, _, _, _, _, T, bp_TooShort, bk_TooShort, rfl⟩
theorem okc_BadWord (X : K.In h) (G : h.Ns mainGlobals mg) (c : SaysY faY fnY tfY exY iniY h K) : ∃ fI cda cc, ClsN PY K mg "BadWord" (ga K "BadWord") fI cda cc (qI "BadWord") (defArgs i_BadWord) (defBody i_BadWord) (defScope i_BadWord) ["word"] := by
  obtain ⟨a1, _, a3, _⟩ := exY_all c.more
  have b := (Bool.and_eq_true_iff.mp (a3 ("BadWord", ["word"]) (List.mem_of_getElem? (i := 16) rfl))).1
  exact supClsN_of a1 b (c.ini ("BadWord", some (("__init__" : Str), qI "BadWord", defArgs i_BadWord, .stmts (defBody i_BadWord), defScope i_BadWord, mainGlobals, builtinsNs)) (List.mem_of_getElem? (i := 16) rfl)) ss_BadWord ini_BadWord (by decide) (glo_ok X G (decide_eq_true (sup_facts b).2.1)) rfl
theorem ok_BadWord (X : K.In h) (G : h.Ns mainGlobals mg) (c : SaysY faY fnY tfY exY iniY h K) : ClsOk PY K mg "BadWord" (ga K "BadWord") ["word"] ["word"] (List.range 1) := by
  obtain ⟨fI, cda, cc, T⟩ := okc_BadWord X G c
  exact ⟨fI, cda, cc, _, _, _, _, T, bp_BadWord, bk_BadWord, rfl⟩
theorem okc_BadLines (X : K.In h) (G : h.Ns mainGlobals mg) (c : SaysY faY fnY tfY exY iniY h K) : ∃ fI cda cc, ClsN PY K mg "BadLines" (ga K "BadLines") fI cda cc (qI "BadLines") (defArgs i_BadLines) (defBody i_BadLines) (defScope i_BadLines) ["lines"] := by
  obtain ⟨a1, _, a3, _⟩ := exY_all c.more
  have b := (Bool.and_eq_true_iff.mp (a3 ("BadLines", ["lines"]) (List.mem_of_getElem? (i := 17) rfl))).1
  exact supClsN_of a1 b (c.ini ("BadLines", some (("__init__" : Str), qI "BadLines", defArgs i_BadLines, .stmts (defBody i_BadLines), defScope i_BadLines, mainGlobals, builtinsNs)) (List.mem_of_getElem? (i := 17) rfl)) ss_BadLines ini_BadLines (by decide) (glo_ok X G (decide_eq_true (sup_facts b).2.1)) rfl
theorem ok_BadLines (X : K.In h) (G : h.Ns mainGlobals mg) (c : SaysY faY fnY tfY exY iniY h K) : ClsOk PY K mg "BadLines" (ga K "BadLines") ["lines"] ["lines"] (List.range 1) := by
  obtain ⟨fI, cda, cc, T⟩ := okc_BadLines X G c
  exact ⟨fI, cda, cc, _, _, _, _, T, bp_BadLines, bk_BadLines, rfl⟩
theorem okc_BadLoop (X : K.In h) (G : h.Ns mainGlobals mg) (c : SaysY faY fnY tfY exY iniY h K) : ∃ fI cda cc, ClsN PY K mg "BadLoop" (ga K "BadLoop") fI cda cc (qI "BadLoop") (defArgs i_BadLoop) (defBody i_BadLoop) (defScope i_BadLoop) ["loop"] := by
  obtain ⟨a1, _, a3, _⟩ := exY_all c.more
  have b := (Bool.and_eq_true_iff.mp (a3 ("BadLoop", ["loop"]) (List.mem_of_getElem? (i := 18) rfl))).1
  exact supClsN_of a1 b (c.ini ("BadLoop", some (("__init__" : Str), qI "BadLoop", defArgs i_BadLoop, .stmts (defBody i_BadLoop), defScope i_BadLoop, mainGlobals, builtinsNs)) (List.mem_of_getElem? (i := 18) rfl)) ss_BadLoop ini_BadLoop (by decide) (glo_ok X G (decide_eq_true (sup_facts b).2.1)) rfl
theorem ok_BadLoop (X : K.In h) (G : h.Ns mainGlobals mg) (c : SaysY faY fnY tfY exY iniY h K) : ClsOk PY K mg "BadLoop" (ga K "BadLoop") ["loop"] ["loop"] (List.range 1) := by
  obtain ⟨fI, cda, cc, T⟩ := okc_BadLoop X G c
  exact ⟨fI, cda, cc, _, _, _, _, T, bp_BadLoop, bk_BadLoop, rfl⟩
theorem okc_BadChain (X : K.In h) (G : h.Ns mainGlobals mg) (c : SaysY faY fnY tfY exY iniY h K) : ∃ fI cda cc, ClsN PY K mg "BadChain" (ga K "BadChain") fI cda cc (qI "BadChain") (defArgs i_BadChain) (defBody i_BadChain) (defScope i_BadChain) ["chain"] := by
  obtain ⟨a1, _, a3, _⟩ := exY_all c.more
  have b := (Bool.and_eq_true_iff.mp (a3 ("BadChain", ["chain"]) (List.mem_of_getElem? (i := 19) rfl))).1
  exact supClsN_of a1 b (c.ini ("BadChain", some (("__init__" : Str), qI "BadChain", defArgs i_BadChain, .stmts (defBody i_BadChain), defScope i_BadChain, mainGlobals, builtinsNs)) (List.mem_of_getElem? (i := 19) rfl)) ss_BadChain ini_BadChain (by decide) (glo_ok X G (decide_eq_true (sup_facts b).2.1)) rfl
theorem ok_BadChain (X : K.In h) (G : h.Ns mainGlobals mg) (c : SaysY faY fnY tfY exY iniY h K) : ClsOk PY K mg "BadChain" (ga K "BadChain") ["chain"] ["chain"] (List.range 1) := by
  obtain ⟨fI, cda, cc, T⟩ := okc_BadChain X G c
  exact ⟨fI, cda, cc, _, _, _, _, T, bp_BadChain, bk_BadChain, rfl⟩
theorem okc_BadMove (X : K.In h) (G : h.Ns mainGlobals mg) (c : SaysY faY fnY tfY exY iniY h K) : ∃ fI cda cc, ClsN PY K mg "BadMove" (ga K "BadMove") fI cda cc (qI "BadMove") (defArgs i_BadMove) (defBody i_BadMove) (defScope i_BadMove) ["move"] := by
  obtain ⟨a1, _, a3, _⟩ := exY_all c.more
  have b := (Bool.and_eq_true_iff.mp (a3 ("BadMove", ["move"]) (List.mem_of_getElem? (i := 20) rfl))).1
  exact supClsN_of a1 b (c.ini ("BadMove", some (("__init__" : Str), qI "BadMove", defArgs i_BadMove, .stmts (defBody i_BadMove), defScope i_BadMove, mainGlobals, builtinsNs)) (List.mem_of_getElem? (i := 20) rfl)) ss_BadMove ini_BadMove (by decide) (glo_ok X G (decide_eq_true (sup_facts b).2.1)) rfl
theorem ok_BadMove (X : K.In h) (G : h.Ns mainGlobals mg) (c : SaysY faY fnY tfY exY iniY h K) : ClsOk PY K mg "BadMove" (ga K "BadMove") ["move"] ["move"] (List.range 1) := by
  obtain ⟨fI, cda, cc, T⟩ := okc_BadMove X G c
  exact ⟨fI, cda, cc, _, _, _, _, T, bp_BadMove, bk_BadMove, rfl⟩
theorem okc_Unfit (X : K.In h) (G : h.Ns mainGlobals mg) (c : SaysY faY fnY tfY exY iniY h K) : ∃ fI cda cc, ClsN PY K mg "Unfit" (ga K "Unfit") fI cda cc (qI "Unfit") (defArgs i_Unfit) (defBody i_Unfit) (defScope i_Unfit) ["move"] := by
  obtain ⟨a1, _, a3, _⟩ := exY_all c.more
  have b := (Bool.and_eq_true_iff.mp (a3 ("Unfit", ["move"]) (List.mem_of_getElem? (i := 21) rfl))).1
  exact supClsN_of a1 b (c.ini ("Unfit", some (("__init__" : Str), qI "Unfit", defArgs i_Unfit, .stmts (defBody i_Unfit), defScope i_Unfit, mainGlobals, builtinsNs)) (List.mem_of_getElem? (i := 21) rfl)) ss_Unfit ini_Unfit (by decide) (glo_ok X G (decide_eq_true (sup_facts b).2.1)) rfl
theorem ok_Unfit (X : K.In h) (G : h.Ns mainGlobals mg) (c : SaysY faY fnY tfY exY iniY h K) : ClsOk PY K mg "Unfit" (ga K "Unfit") ["move"] ["move"] (List.range 1) := by
  obtain ⟨fI, cda, cc, T⟩ := okc_Unfit X G c
  exact ⟨fI, cda, cc, _, _, _, _, T, bp_Unfit, bk_Unfit, rfl⟩
theorem okc_BadName (X : K.In h) (G : h.Ns mainGlobals mg) (c : SaysY faY fnY tfY exY iniY h K) : ∃ fI cda cc, ClsN PY K mg "BadName" (ga K "BadName") fI cda cc (qI "BadName") (defArgs i_BadName) (defBody i_BadName) (defScope i_BadName) ["name"] := by
  obtain ⟨a1, _, a3, _⟩ := exY_all c.more
  have b := (Bool.and_eq_true_iff.mp (a3 ("BadName", ["name"]) (List.mem_of_getElem? (i := 22) rfl))).1
  exact supClsN_of a1 b (c.ini ("BadName", some (("__init__" : Str), qI "BadName", defArgs i_BadName, .stmts (defBody i_BadName), defScope i_BadName, mainGlobals, builtinsNs)) (List.mem_of_getElem? (i := 22) rfl)) ss_BadName ini_BadName (by decide) (glo_ok X G (decide_eq_true (sup_facts b).2.1)) rfl
theorem ok_BadName (X : K.In h) (G : h.Ns mainGlobals mg) (c : SaysY faY fnY tfY exY iniY h K) : ClsOk PY K mg "BadName" (ga K "BadName") ["name"] ["name"] (List.range 1) := by
  obtain ⟨fI, cda, cc, T⟩ := okc_BadName X G c
  exact ⟨fI, cda, cc, _, _, _, _, T, bp_BadName, bk_BadName, rfl⟩
theorem okc_Taken (X : K.In h) (G : h.Ns mainGlobals mg) (c : SaysY faY fnY tfY exY iniY h K) : ∃ fI cda cc, ClsN PY K mg "Taken" (ga K "Taken") fI cda cc (qI "Taken") (defArgs i_Taken) (defBody i_Taken) (defScope i_Taken) ["name"] := by
  obtain ⟨a1, _, a3, _⟩ := exY_all c.more
  have b := (Bool.and_eq_true_iff.mp (a3 ("Taken", ["name"]) (List.mem_of_getElem? (i := 23) rfl))).1
  exact supClsN_of a1 b (c.ini ("Taken", some (("__init__" : Str), qI "Taken", defArgs i_Taken, .stmts (defBody i_Taken), defScope i_Taken, mainGlobals, builtinsNs)) (List.mem_of_getElem? (i := 23) rfl)) ss_Taken ini_Taken (by decide) (glo_ok X G (decide_eq_true (sup_facts b).2.1)) rfl
theorem ok_Taken (X : K.In h) (G : h.Ns mainGlobals mg) (c : SaysY faY fnY tfY exY iniY h K) : ClsOk PY K mg "Taken" (ga K "Taken") ["name"] ["name"] (List.range 1) := by
  obtain ⟨fI, cda, cc, T⟩ := okc_Taken X G c
  exact ⟨fI, cda, cc, _, _, _, _, T, bp_Taken, bk_Taken, rfl⟩
theorem okc_Crowded (X : K.In h) (G : h.Ns mainGlobals mg) (c : SaysY faY fnY tfY exY iniY h K) : ∃ fI cda cc, ClsN PY K mg "Crowded" (ga K "Crowded") fI cda cc (qI "Crowded") (defArgs i_Crowded) (defBody i_Crowded) (defScope i_Crowded) ["name"] := by
  obtain ⟨a1, _, a3, _⟩ := exY_all c.more
  have b := (Bool.and_eq_true_iff.mp (a3 ("Crowded", ["name"]) (List.mem_of_getElem? (i := 24) rfl))).1
  exact supClsN_of a1 b (c.ini ("Crowded", some (("__init__" : Str), qI "Crowded", defArgs i_Crowded, .stmts (defBody i_Crowded), defScope i_Crowded, mainGlobals, builtinsNs)) (List.mem_of_getElem? (i := 24) rfl)) ss_Crowded ini_Crowded (by decide) (glo_ok X G (decide_eq_true (sup_facts b).2.1)) rfl
theorem ok_Crowded (X : K.In h) (G : h.Ns mainGlobals mg) (c : SaysY faY fnY tfY exY iniY h K) : ClsOk PY K mg "Crowded" (ga K "Crowded") ["name"] ["name"] (List.range 1) := by
  obtain ⟨fI, cda, cc, T⟩ := okc_Crowded X G c
  exact ⟨fI, cda, cc, _, _, _, _, T, bp_Crowded, bk_Crowded, rfl⟩
theorem okc_BadStep (X : K.In h) (G : h.Ns mainGlobals mg) (c : SaysY faY fnY tfY exY iniY h K) : ∃ fI cda cc, ClsN PY K mg "BadStep" (ga K "BadStep") fI cda cc (qI "BadStep") (defArgs i_BadStep) (defBody i_BadStep) (defScope i_BadStep) ["step"] := by
  obtain ⟨a1, _, a3, _⟩ := exY_all c.more
  have b := (Bool.and_eq_true_iff.mp (a3 ("BadStep", ["step"]) (List.mem_of_getElem? (i := 25) rfl))).1
  exact supClsN_of a1 b (c.ini ("BadStep", some (("__init__" : Str), qI "BadStep", defArgs i_BadStep, .stmts (defBody i_BadStep), defScope i_BadStep, mainGlobals, builtinsNs)) (List.mem_of_getElem? (i := 25) rfl)) ss_BadStep ini_BadStep (by decide) (glo_ok X G (decide_eq_true (sup_facts b).2.1)) rfl
theorem ok_BadStep (X : K.In h) (G : h.Ns mainGlobals mg) (c : SaysY faY fnY tfY exY iniY h K) : ClsOk PY K mg "BadStep" (ga K "BadStep") ["step"] ["step"] (List.range 1) := by
  obtain ⟨fI, cda, cc, T⟩ := okc_BadStep X G c
  exact ⟨fI, cda, cc, _, _, _, _, T, bp_BadStep, bk_BadStep, rfl⟩
theorem okc_BadSteps (X : K.In h) (G : h.Ns mainGlobals mg) (c : SaysY faY fnY tfY exY iniY h K) : ∃ fI cda cc, ClsN PY K mg "BadSteps" (ga K "BadSteps") fI cda cc (qI "BadSteps") (defArgs i_BadSteps) (defBody i_BadSteps) (defScope i_BadSteps) ["steps"] := by
  obtain ⟨a1, _, a3, _⟩ := exY_all c.more
  have b := (Bool.and_eq_true_iff.mp (a3 ("BadSteps", ["steps"]) (List.mem_of_getElem? (i := 26) rfl))).1
  exact supClsN_of a1 b (c.ini ("BadSteps", some (("__init__" : Str), qI "BadSteps", defArgs i_BadSteps, .stmts (defBody i_BadSteps), defScope i_BadSteps, mainGlobals, builtinsNs)) (List.mem_of_getElem? (i := 26) rfl)) ss_BadSteps ini_BadSteps (by decide) (glo_ok X G (decide_eq_true (sup_facts b).2.1)) rfl
theorem ok_BadSteps (X : K.In h) (G : h.Ns mainGlobals mg) (c : SaysY faY fnY tfY exY iniY h K) : ClsOk PY K mg "BadSteps" (ga K "BadSteps") ["steps"] ["steps"] (List.range 1) := by
  obtain ⟨fI, cda, cc, T⟩ := okc_BadSteps X G c
  exact ⟨fI, cda, cc, _, _, _, _, T, bp_BadSteps, bk_BadSteps, rfl⟩
theorem okc_Barred (X : K.In h) (G : h.Ns mainGlobals mg) (c : SaysY faY fnY tfY exY iniY h K) : ∃ fI cda cc, ClsN PY K mg "Barred" (ga K "Barred") fI cda cc (qI "Barred") (defArgs i_Barred) (defBody i_Barred) (defScope i_Barred) ["fault"] := by
  obtain ⟨a1, _, a3, _⟩ := exY_all c.more
  have b := (Bool.and_eq_true_iff.mp (a3 ("Barred", ["fault"]) (List.mem_of_getElem? (i := 27) rfl))).1
  exact supClsN_of a1 b (c.ini ("Barred", some (("__init__" : Str), qI "Barred", defArgs i_Barred, .stmts (defBody i_Barred), defScope i_Barred, mainGlobals, builtinsNs)) (List.mem_of_getElem? (i := 27) rfl)) ss_Barred ini_Barred (by decide) (glo_ok X G (decide_eq_true (sup_facts b).2.1)) rfl
theorem ok_Barred (X : K.In h) (G : h.Ns mainGlobals mg) (c : SaysY faY fnY tfY exY iniY h K) : ClsOk PY K mg "Barred" (ga K "Barred") ["fault"] ["fault"] (List.range 1) := by
  obtain ⟨fI, cda, cc, T⟩ := okc_Barred X G c
  exact ⟨fI, cda, cc, _, _, _, _, T, bp_Barred, bk_Barred, rfl⟩
theorem okc_BadPaper (X : K.In h) (G : h.Ns mainGlobals mg) (c : SaysY faY fnY tfY exY iniY h K) : ∃ fI cda cc, ClsN PY K mg "BadPaper" (ga K "BadPaper") fI cda cc (qI "BadPaper") (defArgs i_BadPaper) (defBody i_BadPaper) (defScope i_BadPaper) ["paper"] := by
  obtain ⟨a1, _, a3, _⟩ := exY_all c.more
  have b := (Bool.and_eq_true_iff.mp (a3 ("BadPaper", ["paper"]) (List.mem_of_getElem? (i := 28) rfl))).1
  exact supClsN_of a1 b (c.ini ("BadPaper", some (("__init__" : Str), qI "BadPaper", defArgs i_BadPaper, .stmts (defBody i_BadPaper), defScope i_BadPaper, mainGlobals, builtinsNs)) (List.mem_of_getElem? (i := 28) rfl)) ss_BadPaper ini_BadPaper (by decide) (glo_ok X G (decide_eq_true (sup_facts b).2.1)) rfl
theorem ok_BadPaper (X : K.In h) (G : h.Ns mainGlobals mg) (c : SaysY faY fnY tfY exY iniY h K) : ClsOk PY K mg "BadPaper" (ga K "BadPaper") ["paper"] ["paper"] (List.range 1) := by
  obtain ⟨fI, cda, cc, T⟩ := okc_BadPaper X G c
  exact ⟨fI, cda, cc, _, _, _, _, T, bp_BadPaper, bk_BadPaper, rfl⟩
theorem okc_BadJournal (X : K.In h) (G : h.Ns mainGlobals mg) (c : SaysY faY fnY tfY exY iniY h K) : ∃ fI cda cc, ClsN PY K mg "BadJournal" (ga K "BadJournal") fI cda cc (qI "BadJournal") (defArgs i_BadJournal) (defBody i_BadJournal) (defScope i_BadJournal) ["journal"] := by
  obtain ⟨a1, _, a3, _⟩ := exY_all c.more
  have b := (Bool.and_eq_true_iff.mp (a3 ("BadJournal", ["journal"]) (List.mem_of_getElem? (i := 29) rfl))).1
  exact supClsN_of a1 b (c.ini ("BadJournal", some (("__init__" : Str), qI "BadJournal", defArgs i_BadJournal, .stmts (defBody i_BadJournal), defScope i_BadJournal, mainGlobals, builtinsNs)) (List.mem_of_getElem? (i := 29) rfl)) ss_BadJournal ini_BadJournal (by decide) (glo_ok X G (decide_eq_true (sup_facts b).2.1)) rfl
theorem ok_BadJournal (X : K.In h) (G : h.Ns mainGlobals mg) (c : SaysY faY fnY tfY exY iniY h K) : ClsOk PY K mg "BadJournal" (ga K "BadJournal") ["journal"] ["journal"] (List.range 1) := by
  obtain ⟨fI, cda, cc, T⟩ := okc_BadJournal X G c
  exact ⟨fI, cda, cc, _, _, _, _, T, bp_BadJournal, bk_BadJournal, rfl⟩
theorem okc_BadOperator (X : K.In h) (G : h.Ns mainGlobals mg) (c : SaysY faY fnY tfY exY iniY h K) : ∃ fI cda cc, ClsN PY K mg "BadOperator" (ga K "BadOperator") fI cda cc (qI "BadOperator") (defArgs i_BadOperator) (defBody i_BadOperator) (defScope i_BadOperator) ["operator"] := by
  obtain ⟨a1, _, a3, _⟩ := exY_all c.more
  have b := (Bool.and_eq_true_iff.mp (a3 ("BadOperator", ["operator"]) (List.mem_of_getElem? (i := 30) rfl))).1
  exact supClsN_of a1 b (c.ini ("BadOperator", some (("__init__" : Str), qI "BadOperator", defArgs i_BadOperator, .stmts (defBody i_BadOperator), defScope i_BadOperator, mainGlobals, builtinsNs)) (List.mem_of_getElem? (i := 30) rfl)) ss_BadOperator ini_BadOperator (by decide) (glo_ok X G (decide_eq_true (sup_facts b).2.1)) rfl
theorem ok_BadOperator (X : K.In h) (G : h.Ns mainGlobals mg) (c : SaysY faY fnY tfY exY iniY h K) : ClsOk PY K mg "BadOperator" (ga K "BadOperator") ["operator"] ["operator"] (List.range 1) := by
  obtain ⟨fI, cda, cc, T⟩ := okc_BadOperator X G c
  exact ⟨fI, cda, cc, _, _, _, _, T, bp_BadOperator, bk_BadOperator, rfl⟩
theorem okc_BadRule (X : K.In h) (G : h.Ns mainGlobals mg) (c : SaysY faY fnY tfY exY iniY h K) : ∃ fI cda cc, ClsN PY K mg "BadRule" (ga K "BadRule") fI cda cc (qI "BadRule") (defArgs i_BadRule) (defBody i_BadRule) (defScope i_BadRule) ["rule"] := by
  obtain ⟨a1, _, a3, _⟩ := exY_all c.more
  have b := (Bool.and_eq_true_iff.mp (a3 ("BadRule", ["rule"]) (List.mem_of_getElem? (i := 31) rfl))).1
  exact supClsN_of a1 b (c.ini ("BadRule", some (("__init__" : Str), qI "BadRule", defArgs i_BadRule, .stmts (defBody i_BadRule), defScope i_BadRule, mainGlobals, builtinsNs)) (List.mem_of_getElem? (i := 31) rfl)) ss_BadRule ini_BadRule (by decide) (glo_ok X G (decide_eq_true (sup_facts b).2.1)) rfl
theorem ok_BadRule (X : K.In h) (G : h.Ns mainGlobals mg) (c : SaysY faY fnY tfY exY iniY h K) : ClsOk PY K mg "BadRule" (ga K "BadRule") ["rule"] ["rule"] (List.range 1) := by
  obtain ⟨fI, cda, cc, T⟩ := okc_BadRule X G c
  exact ⟨fI, cda, cc, _, _, _, _, T, bp_BadRule, bk_BadRule, rfl⟩
theorem okc_Stuck (X : K.In h) (G : h.Ns mainGlobals mg) (c : SaysY faY fnY tfY exY iniY h K) : ∃ fI cda cc, ClsN PY K mg "Stuck" (ga K "Stuck") fI cda cc (qI "Stuck") (defArgs i_Stuck) (defBody i_Stuck) (defScope i_Stuck) ["number"] := by
  obtain ⟨a1, _, a3, _⟩ := exY_all c.more
  have b := (Bool.and_eq_true_iff.mp (a3 ("Stuck", ["number"]) (List.mem_of_getElem? (i := 32) rfl))).1
  exact supClsN_of a1 b (c.ini ("Stuck", some (("__init__" : Str), qI "Stuck", defArgs i_Stuck, .stmts (defBody i_Stuck), defScope i_Stuck, mainGlobals, builtinsNs)) (List.mem_of_getElem? (i := 32) rfl)) ss_Stuck ini_Stuck (by decide) (glo_ok X G (decide_eq_true (sup_facts b).2.1)) rfl
theorem ok_Stuck (X : K.In h) (G : h.Ns mainGlobals mg) (c : SaysY faY fnY tfY exY iniY h K) : ClsOk PY K mg "Stuck" (ga K "Stuck") ["number"] ["number"] (List.range 1) := by
  obtain ⟨fI, cda, cc, T⟩ := okc_Stuck X G c
  exact ⟨fI, cda, cc, _, _, _, _, T, bp_Stuck, bk_Stuck, rfl⟩
theorem okc_Unright (X : K.In h) (G : h.Ns mainGlobals mg) (c : SaysY faY fnY tfY exY iniY h K) : ∃ fI cda cc, ClsN PY K mg "Unright" (ga K "Unright") fI cda cc (qI "Unright") (defArgs i_Unright) (defBody i_Unright) (defScope i_Unright) ["word", "path"] := by
  obtain ⟨a1, _, a3, _⟩ := exY_all c.more
  have b := (Bool.and_eq_true_iff.mp (a3 ("Unright", ["word", "path"]) (List.mem_of_getElem? (i := 33) rfl))).1
  exact supClsN_of a1 b (c.ini ("Unright", some (("__init__" : Str), qI "Unright", defArgs i_Unright, .stmts (defBody i_Unright), defScope i_Unright, mainGlobals, builtinsNs)) (List.mem_of_getElem? (i := 33) rfl)) ss_Unright ini_Unright (by decide) (glo_ok X G (decide_eq_true (sup_facts b).2.1)) rfl
theorem ok_Unright (X : K.In h) (G : h.Ns mainGlobals mg) (c : SaysY faY fnY tfY exY iniY h K) : ClsOk PY K mg "Unright" (ga K "Unright") ["word", "path"] ["word", "path"] (List.range 2) := by
  obtain ⟨fI, cda, cc, T⟩ := okc_Unright X G c
  exact ⟨fI, cda, cc, _, _, _, _, T, bp_Unright, bk_Unright, rfl⟩
theorem okc_Used (X : K.In h) (G : h.Ns mainGlobals mg) (c : SaysY faY fnY tfY exY iniY h K) : ∃ fI cda cc, ClsN PY K mg "Used" (ga K "Used") fI cda cc (qI "Used") (defArgs i_Used) (defBody i_Used) (defScope i_Used) ["named", "by"] := by
  obtain ⟨a1, _, a3, _⟩ := exY_all c.more
  have b := (Bool.and_eq_true_iff.mp (a3 ("Used", ["named", "by"]) (List.mem_of_getElem? (i := 34) rfl))).1
  exact supClsN_of a1 b (c.ini ("Used", some (("__init__" : Str), qI "Used", defArgs i_Used, .stmts (defBody i_Used), defScope i_Used, mainGlobals, builtinsNs)) (List.mem_of_getElem? (i := 34) rfl)) ss_Used ini_Used (by decide) (glo_ok X G (decide_eq_true (sup_facts b).2.1)) rfl
theorem ok_Used (X : K.In h) (G : h.Ns mainGlobals mg) (c : SaysY faY fnY tfY exY iniY h K) : ClsOk PY K mg "Used" (ga K "Used") ["named", "by"] ["named", "by"] (List.range 2) := by
  obtain ⟨fI, cda, cc, T⟩ := okc_Used X G c
  exact ⟨fI, cda, cc, _, _, _, _, T, bp_Used, bk_Used, rfl⟩
theorem okc_BadText (X : K.In h) (G : h.Ns mainGlobals mg) (c : SaysY faY fnY tfY exY iniY h K) : ∃ fI cda cc, ClsN PY K mg "BadText" (ga K "BadText") fI cda cc (qI "BadText") (defArgs i_BadText) (defBody i_BadText) (defScope i_BadText) ["text", "line"] := by
  obtain ⟨a1, _, a3, _⟩ := exY_all c.more
  have b := (Bool.and_eq_true_iff.mp (a3 ("BadText", ["text", "line"]) (List.mem_of_getElem? (i := 35) rfl))).1
  exact supClsN_of a1 b (c.ini ("BadText", some (("__init__" : Str), qI "BadText", defArgs i_BadText, .stmts (defBody i_BadText), defScope i_BadText, mainGlobals, builtinsNs)) (List.mem_of_getElem? (i := 35) rfl)) ss_BadText ini_BadText (by decide) (glo_ok X G (decide_eq_true (sup_facts b).2.1)) rfl
theorem ok_BadText (X : K.In h) (G : h.Ns mainGlobals mg) (c : SaysY faY fnY tfY exY iniY h K) : ClsOk PY K mg "BadText" (ga K "BadText") ["text", "line"] ["text", "line"] (List.range 2) := by
  obtain ⟨fI, cda, cc, T⟩ := okc_BadText X G c
  exact ⟨fI, cda, cc, _, _, _, _, T, bp_BadText, bk_BadText, rfl⟩
theorem okc_Unread (X : K.In h) (G : h.Ns mainGlobals mg) (c : SaysY faY fnY tfY exY iniY h K) : ∃ fI cda cc, ClsN PY K mg "Unread" (ga K "Unread") fI cda cc (qI "Unread") (defArgs i_Unread) (defBody i_Unread) (defScope i_Unread) ["text", "place"] := by
  obtain ⟨a1, _, a3, _⟩ := exY_all c.more
  have b := (Bool.and_eq_true_iff.mp (a3 ("Unread", ["text", "place"]) (List.mem_of_getElem? (i := 36) rfl))).1
  exact supClsN_of a1 b (c.ini ("Unread", some (("__init__" : Str), qI "Unread", defArgs i_Unread, .stmts (defBody i_Unread), defScope i_Unread, mainGlobals, builtinsNs)) (List.mem_of_getElem? (i := 36) rfl)) ss_Unread ini_Unread (by decide) (glo_ok X G (decide_eq_true (sup_facts b).2.1)) rfl
theorem ok_Unread (X : K.In h) (G : h.Ns mainGlobals mg) (c : SaysY faY fnY tfY exY iniY h K) : ClsOk PY K mg "Unread" (ga K "Unread") ["text", "place"] ["text", "place"] (List.range 2) := by
  obtain ⟨fI, cda, cc, T⟩ := okc_Unread X G c
  exact ⟨fI, cda, cc, _, _, _, _, T, bp_Unread, bk_Unread, rfl⟩
theorem okc_NothingDone (X : K.In h) (G : h.Ns mainGlobals mg) (c : SaysY faY fnY tfY exY iniY h K) : ∃ fI cda cc, ClsN PY K mg "NothingDone" (ga K "NothingDone") fI cda cc (qI "NothingDone") (defArgs i_NothingDone) (defBody i_NothingDone) (defScope i_NothingDone) [] := by
  obtain ⟨a1, _, a3, _⟩ := exY_all c.more
  have b := (Bool.and_eq_true_iff.mp (a3 ("NothingDone", []) (List.mem_of_getElem? (i := 37) rfl))).1
  exact supClsN_of a1 b (c.ini ("NothingDone", some (("__init__" : Str), qI "NothingDone", defArgs i_NothingDone, .stmts (defBody i_NothingDone), defScope i_NothingDone, mainGlobals, builtinsNs)) (List.mem_of_getElem? (i := 37) rfl)) ss_NothingDone ini_NothingDone (by decide) (glo_ok X G (decide_eq_true (sup_facts b).2.1)) rfl
theorem ok_NothingDone (X : K.In h) (G : h.Ns mainGlobals mg) (c : SaysY faY fnY tfY exY iniY h K) : ClsOk PY K mg "NothingDone" (ga K "NothingDone") [] [] (List.range 0) := by
  obtain ⟨fI, cda, cc, T⟩ := okc_NothingDone X G c
  exact ⟨fI, cda, cc, _, _, _, _, T, bp_NothingDone, bk_NothingDone, rfl⟩
theorem okc_NothingUndone (X : K.In h) (G : h.Ns mainGlobals mg) (c : SaysY faY fnY tfY exY iniY h K) : ∃ fI cda cc, ClsN PY K mg "NothingUndone" (ga K "NothingUndone") fI cda cc (qI "NothingUndone") (defArgs i_NothingUndone) (defBody i_NothingUndone) (defScope i_NothingUndone) [] := by
  obtain ⟨a1, _, a3, _⟩ := exY_all c.more
  have b := (Bool.and_eq_true_iff.mp (a3 ("NothingUndone", []) (List.mem_of_getElem? (i := 38) rfl))).1
  exact supClsN_of a1 b (c.ini ("NothingUndone", some (("__init__" : Str), qI "NothingUndone", defArgs i_NothingUndone, .stmts (defBody i_NothingUndone), defScope i_NothingUndone, mainGlobals, builtinsNs)) (List.mem_of_getElem? (i := 38) rfl)) ss_NothingUndone ini_NothingUndone (by decide) (glo_ok X G (decide_eq_true (sup_facts b).2.1)) rfl
theorem ok_NothingUndone (X : K.In h) (G : h.Ns mainGlobals mg) (c : SaysY faY fnY tfY exY iniY h K) : ClsOk PY K mg "NothingUndone" (ga K "NothingUndone") [] [] (List.range 0) := by
  obtain ⟨fI, cda, cc, T⟩ := okc_NothingUndone X G c
  exact ⟨fI, cda, cc, _, _, _, _, T, bp_NothingUndone, bk_NothingUndone, rfl⟩
theorem okc_Breaks (X : K.In h) (G : h.Ns mainGlobals mg) (c : SaysY faY fnY tfY exY iniY h K) : ∃ fI cda cc, ClsN PY K mg "Breaks" (ga K "Breaks") fI cda cc (qI "Breaks") (defArgs i_Breaks) (defBody i_Breaks) (defScope i_Breaks) ["name", "word", "path"] := by
  obtain ⟨a1, _, a3, _⟩ := exY_all c.more
  have b := (Bool.and_eq_true_iff.mp (a3 ("Breaks", ["name", "word", "path"]) (List.mem_of_getElem? (i := 39) rfl))).1
  exact supClsN_of a1 b (c.ini ("Breaks", some (("__init__" : Str), qI "Breaks", defArgs i_Breaks, .stmts (defBody i_Breaks), defScope i_Breaks, mainGlobals, builtinsNs)) (List.mem_of_getElem? (i := 39) rfl)) ss_Breaks ini_Breaks (by decide) (glo_ok X G (decide_eq_true (sup_facts b).2.1)) rfl
theorem ok_Breaks (X : K.In h) (G : h.Ns mainGlobals mg) (c : SaysY faY fnY tfY exY iniY h K) : ClsOk PY K mg "Breaks" (ga K "Breaks") ["name", "word", "path"] ["name", "word", "path"] (List.range 3) := by
  obtain ⟨fI, cda, cc, T⟩ := okc_Breaks X G c
  exact ⟨fI, cda, cc, _, _, _, _, T, bp_Breaks, bk_Breaks, rfl⟩
theorem ok2_Breaks (X : K.In h) (G : h.Ns mainGlobals mg) (c : SaysY faY fnY tfY exY iniY h K) : ClsOk PY K mg "Breaks" (ga K "Breaks") ["name", "word", "path"] ["path", "word", "name"] [2, 1, 0] := by
  obtain ⟨fI, cda, cc, T⟩ := okc_Breaks X G c
  exact ⟨fI, cda, cc, _, _, _, _, T, bp_Breaks, bk2_Breaks, rfl⟩
theorem okc_Unguarded (X : K.In h) (G : h.Ns mainGlobals mg) (c : SaysY faY fnY tfY exY iniY h K) : ∃ fI cda cc, ClsN PY K mg "Unguarded" (ga K "Unguarded") fI cda cc (qI "Unguarded") (defArgs i_Unguarded) (defBody i_Unguarded) (defScope i_Unguarded) ["word", "index", "path"] := by
  obtain ⟨a1, _, a3, _⟩ := exY_all c.more
  have b := (Bool.and_eq_true_iff.mp (a3 ("Unguarded", ["word", "index", "path"]) (List.mem_of_getElem? (i := 40) rfl))).1
  exact supClsN_of a1 b (c.ini ("Unguarded", some (("__init__" : Str), qI "Unguarded", defArgs i_Unguarded, .stmts (defBody i_Unguarded), defScope i_Unguarded, mainGlobals, builtinsNs)) (List.mem_of_getElem? (i := 40) rfl)) ss_Unguarded ini_Unguarded (by decide) (glo_ok X G (decide_eq_true (sup_facts b).2.1)) rfl
theorem ok_Unguarded (X : K.In h) (G : h.Ns mainGlobals mg) (c : SaysY faY fnY tfY exY iniY h K) : ClsOk PY K mg "Unguarded" (ga K "Unguarded") ["word", "index", "path"] ["word", "index", "path"] (List.range 3) := by
  obtain ⟨fI, cda, cc, T⟩ := okc_Unguarded X G c
  exact ⟨fI, cda, cc, _, _, _, _, T, bp_Unguarded, bk_Unguarded, rfl⟩
theorem ok2_Unguarded (X : K.In h) (G : h.Ns mainGlobals mg) (c : SaysY faY fnY tfY exY iniY h K) : ClsOk PY K mg "Unguarded" (ga K "Unguarded") ["word", "index", "path"] ["path", "index", "word"] [2, 1, 0] := by
  obtain ⟨fI, cda, cc, T⟩ := okc_Unguarded X G c
  exact ⟨fI, cda, cc, _, _, _, _, T, bp_Unguarded, bk2_Unguarded, rfl⟩
theorem ok_all (X : K.In h) (G : h.Ns mainGlobals mg) (c : SaysY faY fnY tfY exY iniY h K) : ∀ i n fs, cT[i]? = some (n, fs) → ClsOk PY K mg n (caY K i) fs fs (List.range fs.length)
  | 0, _, _, e => by
    have e : some (("BadQuestion" : Str), (["question"] : List Str)) = some (_, _) := e
    cases e
    exact ok_BadQuestion X G c
  | 1, _, _, e => by
    have e : some (("BadCode" : Str), (["code"] : List Str)) = some (_, _) := e
    cases e
    exact ok_BadCode X G c
  | 2, _, _, e => by
    have e : some (("Unrun" : Str), (["index"] : List Str)) = some (_, _) := e
    cases e
    exact ok_Unrun X G c
  | 3, _, _, e => by
    have e : some (("BadRatio" : Str), (["ratio"] : List Str)) = some (_, _) := e
    cases e
    exact ok_BadRatio X G c
  | 4, _, _, e => by
    have e : some (("Nought" : Str), (["ratio"] : List Str)) = some (_, _) := e
    cases e
    exact ok_Nought X G c
  | 5, _, _, e => by
    have e : some (("BadPoly" : Str), (["poly"] : List Str)) = some (_, _) := e
    cases e
    exact ok_BadPoly X G c
  | 6, _, _, e => by
    have e : some (("BadTree" : Str), (["tree"] : List Str)) = some (_, _) := e
    cases e
    exact ok_BadTree X G c
  | 7, _, _, e => by
    have e : some (("BadPath" : Str), (["path"] : List Str)) = some (_, _) := e
    cases e
    exact ok_BadPath X G c
  | 8, _, _, e => by
    have e : some (("BadBook" : Str), (["book"] : List Str)) = some (_, _) := e
    cases e
    exact ok_BadBook X G c
  | 9, _, _, e => by
    have e : some (("NoName" : Str), (["named"] : List Str)) = some (_, _) := e
    cases e
    exact ok_NoName X G c
  | 10, _, _, e => by
    have e : some (("TooGreat" : Str), (["most"] : List Str)) = some (_, _) := e
    cases e
    exact ok_TooGreat X G c
  | 11, _, _, e => by
    have e : some (("Refused" : Str), (["path"] : List Str)) = some (_, _) := e
    cases e
    exact ok_Refused X G c
  | 12, _, _, e => by
    have e : some (("BadNumber" : Str), (["number"] : List Str)) = some (_, _) := e
    cases e
    exact ok_BadNumber X G c
  | 13, _, _, e => by
    have e : some (("BadRow" : Str), (["row"] : List Str)) = some (_, _) := e
    cases e
    exact ok_BadRow X G c
  | 14, _, _, e => by
    have e : some (("BadSize" : Str), (["size"] : List Str)) = some (_, _) := e
    cases e
    exact ok_BadSize X G c
  | 15, _, _, e => by
    have e : some (("TooShort" : Str), (["row"] : List Str)) = some (_, _) := e
    cases e
    exact ok_TooShort X G c
  | 16, _, _, e => by
    have e : some (("BadWord" : Str), (["word"] : List Str)) = some (_, _) := e
    cases e
    exact ok_BadWord X G c
  | 17, _, _, e => by
    have e : some (("BadLines" : Str), (["lines"] : List Str)) = some (_, _) := e
    cases e
    exact ok_BadLines X G c
  | 18, _, _, e => by
    have e : some (("BadLoop" : Str), (["loop"] : List Str)) = some (_, _) := e
    cases e
    exact ok_BadLoop X G c
  | 19, _, _, e => by
    have e : some (("BadChain" : Str), (["chain"] : List Str)) = some (_, _) := e
    cases e
    exact ok_BadChain X G c
  | 20, _, _, e => by
    have e : some (("BadMove" : Str), (["move"] : List Str)) = some (_, _) := e
    cases e
    exact ok_BadMove X G c
  | 21, _, _, e => by
    have e : some (("Unfit" : Str), (["move"] : List Str)) = some (_, _) := e
    cases e
    exact ok_Unfit X G c
  | 22, _, _, e => by
    have e : some (("BadName" : Str), (["name"] : List Str)) = some (_, _) := e
    cases e
    exact ok_BadName X G c
  | 23, _, _, e => by
    have e : some (("Taken" : Str), (["name"] : List Str)) = some (_, _) := e
    cases e
    exact ok_Taken X G c
  | 24, _, _, e => by
    have e : some (("Crowded" : Str), (["name"] : List Str)) = some (_, _) := e
    cases e
    exact ok_Crowded X G c
  | 25, _, _, e => by
    have e : some (("BadStep" : Str), (["step"] : List Str)) = some (_, _) := e
    cases e
    exact ok_BadStep X G c
  | 26, _, _, e => by
    have e : some (("BadSteps" : Str), (["steps"] : List Str)) = some (_, _) := e
    cases e
    exact ok_BadSteps X G c
  | 27, _, _, e => by
    have e : some (("Barred" : Str), (["fault"] : List Str)) = some (_, _) := e
    cases e
    exact ok_Barred X G c
  | 28, _, _, e => by
    have e : some (("BadPaper" : Str), (["paper"] : List Str)) = some (_, _) := e
    cases e
    exact ok_BadPaper X G c
  | 29, _, _, e => by
    have e : some (("BadJournal" : Str), (["journal"] : List Str)) = some (_, _) := e
    cases e
    exact ok_BadJournal X G c
  | 30, _, _, e => by
    have e : some (("BadOperator" : Str), (["operator"] : List Str)) = some (_, _) := e
    cases e
    exact ok_BadOperator X G c
  | 31, _, _, e => by
    have e : some (("BadRule" : Str), (["rule"] : List Str)) = some (_, _) := e
    cases e
    exact ok_BadRule X G c
  | 32, _, _, e => by
    have e : some (("Stuck" : Str), (["number"] : List Str)) = some (_, _) := e
    cases e
    exact ok_Stuck X G c
  | 33, _, _, e => by
    have e : some (("Unright" : Str), (["word", "path"] : List Str)) = some (_, _) := e
    cases e
    exact ok_Unright X G c
  | 34, _, _, e => by
    have e : some (("Used" : Str), (["named", "by"] : List Str)) = some (_, _) := e
    cases e
    exact ok_Used X G c
  | 35, _, _, e => by
    have e : some (("BadText" : Str), (["text", "line"] : List Str)) = some (_, _) := e
    cases e
    exact ok_BadText X G c
  | 36, _, _, e => by
    have e : some (("Unread" : Str), (["text", "place"] : List Str)) = some (_, _) := e
    cases e
    exact ok_Unread X G c
  | 37, _, _, e => by
    have e : some (("NothingDone" : Str), ([] : List Str)) = some (_, _) := e
    cases e
    exact ok_NothingDone X G c
  | 38, _, _, e => by
    have e : some (("NothingUndone" : Str), ([] : List Str)) = some (_, _) := e
    cases e
    exact ok_NothingUndone X G c
  | 39, _, _, e => by
    have e : some (("Breaks" : Str), (["name", "word", "path"] : List Str)) = some (_, _) := e
    cases e
    exact ok_Breaks X G c
  | 40, _, _, e => by
    have e : some (("Unguarded" : Str), (["word", "index", "path"] : List Str)) = some (_, _) := e
    cases e
    exact ok_Unguarded X G c
  | i + 41, _, _, e => by
    rw [List.getElem?_eq_none (by rw [cT_len]; omega)] at e
    cases e
theorem ctY (X : K.In h) (G : h.Ns mainGlobals mg) (c : SaysY faY fnY tfY exY iniY h K) : CTxt PY K mg (caY K) (ga K "MillError") := by
  obtain ⟨_, a2, a3, a4, _⟩ := exY_all c.more
  have fx : ∀ i n fs, cT[i]? = some (n, fs) → supBN PY K "MillError" n (qI n) fs = true ∧ excB K (ga K n) = true := fun i n fs e => Bool.and_eq_true_iff.mp (a3 (n, fs) (List.mem_of_getElem? e))
  have mr : ∀ i, i < 41 → (PySem.W.clsIn K (caY K i)).map (·.mro) = some (.ref (caY K i) :: .ref (ga K "MillError") :: veBase) ∧ PySem.W.typeIn K (.ref (caY K i)) = some (.type "type") := fun i hi => by
    obtain ⟨fs, e⟩ := nC_lt hi
    exact (sup_facts (fx _ _ _ e).1).2.2
  have dist : ∀ i j, i < 41 → j < 41 → caY K i = caY K j → i = j := fun i j hi hj e => by
    obtain ⟨fi, ei⟩ := nC_lt hi
    obtain ⟨fj, ej⟩ := nC_lt hj
    have nd := (List.nodup_cons.mp a4).2
    have hl : (cT.map fun p => ga K p.1).length = 41 := by rw [List.length_map, cT_len]
    have gi : (cT.map fun p => ga K p.1)[i]? = some (caY K i) := by rw [List.getElem?_map, ei]; rfl
    have gj : (cT.map fun p => ga K p.1)[j]? = some (caY K j) := by rw [List.getElem?_map, ej]; rfl
    exact (List.getElem?_inj (i := i) (j := j) (by omega) nd).mp (by rw [gi, gj, e])
  have nm : ∀ i, i < 41 → caY K i ≠ ga K "MillError" := fun i hi e => by
    obtain ⟨fi, ei⟩ := nC_lt hi
    refine (List.nodup_cons.mp a4).1 (e ▸ ?_)
    exact List.mem_map.mpr ⟨(nC i, fi), List.mem_of_getElem? ei, rfl⟩
  have so : ∀ i, i < 41 → (PySem.W.clsIn K (caY K i)).isSome = true := fun i hi => by
    obtain ⟨cd, hc, _⟩ := Option.map_eq_some_iff.mp (mr i hi).1
    rw [hc]
    rfl
  refine ⟨ok_all X G c, ok2_Breaks X G c, ok2_Unguarded X G c, fun i n fs e => ?_, fun i n fs e => ?_, fun i j hi hj => ?_, fun i hi => ?_, fun i hi => kit_ve (mr i hi).1, glo_ok X G (c.d.fact 14 (f := .glo "MillError") rfl), free_ok X G (c.d.fact 28 (f := .free "ValueError") rfl), free_ok X G (c.d.fact 26 (f := .free "enumerate") rfl), free_ok X G (c.d.fact 27 (f := .free "any") rfl)⟩
  · obtain ⟨b1, b2⟩ := fx i n fs e
    obtain ⟨x1, x2⟩ := excB_ok b2
    show XfC K (ga K (nC i)) ∧ ExcC K (ga K (nC i)) ∧ ∀ f ∈ fs, PySem.W.findIn K (.ref (ga K (nC i))) f = some none
    rw [nC_of e]
    exact ⟨x1, x2, (sup_facts b1).1⟩
  · show mg n = some (.ref (ga K (nC i)))
    rw [nC_of e]
    exact glo_ok X G (decide_eq_true (sup_facts (fx i n fs e).1).2.1)
  · rw [kit_of (mr i hi).1 (so j hj) (mr j hj).2]
    by_cases e : i = j
    · subst e
      simp
    · have ne : ¬ caY K i = caY K j := fun z => e (dist i j hi hj z)
      simp [e, ne, nm j hj]
  · unfold millB at a2
    obtain ⟨m1, m2⟩ := Bool.and_eq_true_iff.mp a2
    rw [kit_of (mr i hi).1 m1 (beq_iff_eq.mp m2)]
    simp
theorem tabs0 {T : List (Addr × Str)} {H : Hp} (h : ∀ p ∈ T, H p.1 = some (.tbl #[])) : Tabs T H := fun p hp => ⟨#[], h p hp, trivial, fun pos cv hc => by cases hc⟩
theorem code_at {p : Defn} {x q : Str} {pa : Arguments} {b : List Stmt} {sc : Scope} {dvs : List V} {kws : List (Str × V)} {fd : FuncData} (F : FunD K x q pa b sc dvs kws (fAd K p) fd) : fd.code = .ref (codeOf K p) := by
  obtain ⟨oc, od, dV, kV, doc, pm, an, cdv, ct, osl, rfl, lk, hcd, _⟩ := F.ex
  obtain ⟨cc, rfl⟩ := codeIn_ref hcd
  rw [codeOf_eq lk rfl]
abbrev gcY (K : PySem.W.Frag) (i : Nat) : Addr := (He.cT K (hnY i, none)).1
abbrev gpY (K : PySem.W.Frag) (i : Nat) : Addr := (He.cT K (hnY i, none)).2
def TbY (K : PySem.W.Frag) : List (Addr × Str) := [(gpY K 1, "_law_e_first.<locals>.<lambda>"), (gpY K 2, "_law_e_second.<locals>.<lambda>"), (gpY K 3, "_law_e_third.<locals>.<lambda>"), (gpY K 4, "_law_e_fourth.<locals>.<lambda>")]
theorem own_1 (c : SaysY faY fnY tfY exY iniY h K) (TB : ∀ p ∈ tfY.map (He.cT K), TabB base mg p.1 p.2) : Own1 base mg (TbY K) "_law_e_first.<locals>.<lambda>" (gcY K 1) (gpY K 1) := by
  obtain ⟨_, _, _, _, nd⟩ := exY_all c.more
  have nd : [gpY K 1, gpY K 2, gpY K 3, gpY K 4].Nodup := nd
  simp only [List.nodup_cons, List.mem_cons, List.not_mem_nil, or_false, not_or] at nd
  obtain ⟨⟨n12, n13, n14⟩, ⟨n23, n24⟩, n34, _⟩ := nd
  refine ⟨TB _ (List.mem_map_of_mem (f := He.cT K) (a := (hnY 1, none)) (List.mem_of_getElem? (i := 0) rfl)), List.mem_of_getElem? (i := 0) rfl, fun p hp hq => ?_⟩
  unfold TbY at hp
  simp only [List.mem_cons, List.not_mem_nil, or_false] at hp
  rcases hp with rfl | rfl | rfl | rfl
  · rfl
  · exact absurd hq.symm n12
  · exact absurd hq.symm n13
  · exact absurd hq.symm n14
theorem own_2 (c : SaysY faY fnY tfY exY iniY h K) (TB : ∀ p ∈ tfY.map (He.cT K), TabB base mg p.1 p.2) : Own1 base mg (TbY K) "_law_e_second.<locals>.<lambda>" (gcY K 2) (gpY K 2) := by
  obtain ⟨_, _, _, _, nd⟩ := exY_all c.more
  have nd : [gpY K 1, gpY K 2, gpY K 3, gpY K 4].Nodup := nd
  simp only [List.nodup_cons, List.mem_cons, List.not_mem_nil, or_false, not_or] at nd
  obtain ⟨⟨n12, n13, n14⟩, ⟨n23, n24⟩, n34, _⟩ := nd
  refine ⟨TB _ (List.mem_map_of_mem (f := He.cT K) (a := (hnY 2, none)) (List.mem_of_getElem? (i := 1) rfl)), List.mem_of_getElem? (i := 1) rfl, fun p hp hq => ?_⟩
  unfold TbY at hp
  simp only [List.mem_cons, List.not_mem_nil, or_false] at hp
  rcases hp with rfl | rfl | rfl | rfl
  · exact absurd hq n12
  · rfl
  · exact absurd hq.symm n23
  · exact absurd hq.symm n24
theorem own_3 (c : SaysY faY fnY tfY exY iniY h K) (TB : ∀ p ∈ tfY.map (He.cT K), TabB base mg p.1 p.2) : Own1 base mg (TbY K) "_law_e_third.<locals>.<lambda>" (gcY K 3) (gpY K 3) := by
  obtain ⟨_, _, _, _, nd⟩ := exY_all c.more
  have nd : [gpY K 1, gpY K 2, gpY K 3, gpY K 4].Nodup := nd
  simp only [List.nodup_cons, List.mem_cons, List.not_mem_nil, or_false, not_or] at nd
  obtain ⟨⟨n12, n13, n14⟩, ⟨n23, n24⟩, n34, _⟩ := nd
  refine ⟨TB _ (List.mem_map_of_mem (f := He.cT K) (a := (hnY 3, none)) (List.mem_of_getElem? (i := 2) rfl)), List.mem_of_getElem? (i := 2) rfl, fun p hp hq => ?_⟩
  unfold TbY at hp
  simp only [List.mem_cons, List.not_mem_nil, or_false] at hp
  rcases hp with rfl | rfl | rfl | rfl
  · exact absurd hq n13
  · exact absurd hq n23
  · rfl
  · exact absurd hq.symm n34
theorem own_4 (c : SaysY faY fnY tfY exY iniY h K) (TB : ∀ p ∈ tfY.map (He.cT K), TabB base mg p.1 p.2) : Own1 base mg (TbY K) "_law_e_fourth.<locals>.<lambda>" (gcY K 4) (gpY K 4) := by
  obtain ⟨_, _, _, _, nd⟩ := exY_all c.more
  have nd : [gpY K 1, gpY K 2, gpY K 3, gpY K 4].Nodup := nd
  simp only [List.nodup_cons, List.mem_cons, List.not_mem_nil, or_false, not_or] at nd
  obtain ⟨⟨n12, n13, n14⟩, ⟨n23, n24⟩, n34, _⟩ := nd
  refine ⟨TB _ (List.mem_map_of_mem (f := He.cT K) (a := (hnY 4, none)) (List.mem_of_getElem? (i := 3) rfl)), List.mem_of_getElem? (i := 3) rfl, fun p hp hq => ?_⟩
  unfold TbY at hp
  simp only [List.mem_cons, List.not_mem_nil, or_false] at hp
  rcases hp with rfl | rfl | rfl | rfl
  · exact absurd hq n14
  · exact absurd hq n24
  · exact absurd hq n34
  · rfl
end
theorem lawTY {w : World} {mg : Str → Option Value} {h base : Heap} {K : PySem.W.Frag} (X : K.In h) (G : h.Ns mainGlobals mg) (c : SaysY faY fnY tfY exY iniY h K) (TB : ∀ p ∈ tfY.map (He.cT K), TabB base mg p.1 p.2) : LawT PY w K mg base (aY K) (fY K) (caY K) (ga K "MillError") (TbY K) (haY K) (hfY K) (gcY K) (gpY K) where
  txt := txtY X G c
  ct := ctY X G c
  dS := funD_at (c.d.def_ 5 (d := ⟨("_law_spring", none), "_law_spring", "_law_spring", defArgs (top 54), defBody (top 54), defScope (top 54), [], []⟩) rfl)
  mS := glo_ok X G (c.d.fact 5 (f := .glo "_law_spring") rfl)
  d1 := funD_at (c.d.def_ 6 (d := ⟨("_law_e_first", none), "_law_e_first", "_law_e_first", defArgs (top 60), defBody (top 60), defScope (top 60), [], []⟩) rfl)
  m1 := glo_ok X G (c.d.fact 6 (f := .glo "_law_e_first") rfl)
  c1 := code_at (p := ("_law_e_first", none)) (funD_at (c.d.def_ 6 (d := ⟨("_law_e_first", none), "_law_e_first", "_law_e_first", defArgs (top 60), defBody (top 60), defScope (top 60), [], []⟩) rfl))
  o1 := own_1 c TB
  d2 := funD_at (c.d.def_ 7 (d := ⟨("_law_e_second", none), "_law_e_second", "_law_e_second", defArgs (top 61), defBody (top 61), defScope (top 61), [], []⟩) rfl)
  m2 := glo_ok X G (c.d.fact 7 (f := .glo "_law_e_second") rfl)
  c2 := code_at (p := ("_law_e_second", none)) (funD_at (c.d.def_ 7 (d := ⟨("_law_e_second", none), "_law_e_second", "_law_e_second", defArgs (top 61), defBody (top 61), defScope (top 61), [], []⟩) rfl))
  o2 := own_2 c TB
  d3 := funD_at (c.d.def_ 8 (d := ⟨("_law_e_third", none), "_law_e_third", "_law_e_third", defArgs (top 62), defBody (top 62), defScope (top 62), [], []⟩) rfl)
  m3 := glo_ok X G (c.d.fact 8 (f := .glo "_law_e_third") rfl)
  c3 := code_at (p := ("_law_e_third", none)) (funD_at (c.d.def_ 8 (d := ⟨("_law_e_third", none), "_law_e_third", "_law_e_third", defArgs (top 62), defBody (top 62), defScope (top 62), [], []⟩) rfl))
  o3 := own_3 c TB
  d4 := funD_at (c.d.def_ 9 (d := ⟨("_law_e_fourth", none), "_law_e_fourth", "_law_e_fourth", defArgs (top 63), defBody (top 63), defScope (top 63), [], []⟩) rfl)
  m4 := glo_ok X G (c.d.fact 9 (f := .glo "_law_e_fourth") rfl)
  c4 := code_at (p := ("_law_e_fourth", none)) (funD_at (c.d.def_ 9 (d := ⟨("_law_e_fourth", none), "_law_e_fourth", "_law_e_fourth", defArgs (top 63), defBody (top 63), defScope (top 63), [], []⟩) rfl))
  o4 := own_4 c TB
  dK := funD_at (c.d.def_ 10 (d := ⟨("_law_e_kinds", none), "_law_e_kinds", "_law_e_kinds", defArgs (top 64), defBody (top 64), defScope (top 64), [], []⟩) rfl)
  mK := glo_ok X G (c.d.fact 10 (f := .glo "_law_e_kinds") rfl)
  dR := funD_at (c.d.def_ 11 (d := ⟨("_law_e_right", none), "_law_e_right", "_law_e_right", defArgs (top 66), defBody (top 66), defScope (top 66), [], []⟩) rfl)
  mR := glo_ok X G (c.d.fact 11 (f := .glo "_law_e_right") rfl)
  dB := funD_at (c.d.def_ 12 (d := ⟨("_law_e_breaks", none), "_law_e_breaks", "_law_e_breaks", defArgs (top 67), defBody (top 67), defScope (top 67), [], []⟩) rfl)
  mB := glo_ok X G (c.d.fact 12 (f := .glo "_law_e_breaks") rfl)
/-- all that the head tells of the law -/
theorem lawY {w : World} {mg : Str → Option Value} {fa : Addr} {h : Heap} {K : PySem.W.Frag} (X : K.In h) (G : h.Ns mainGlobals mg) (hfa : mg ("law" : Str) = some (.ref fa)) (c : SaysY faY fnY tfY exY iniY h K) : ∃ (K : Frag) (fd : FuncData) (cs : List (Addr × Addr)) (sp : Sp), K.In h ∧ (∀ p ∈ cs, h.get? p.2 = some { cls := .none, data := .fields #[] } ∧ K.lookup p.2 = none ∧ PySem.W.CodeHd h p.1 p.2) ∧
      (∀ (s : Shared) (u : Value), BindsTo s fd ⟨[u], []⟩ [("script", u)]) ∧ (∀ (H : Hp) (a : Addr) (ns : List Int), (∀ p ∈ cs, H p.2 = some (.tbl #[])) → SqL K H a (ns.map V.int) → sp [.ref a] H (fun v _ => v = .bl true) fun _ _ _ => False) ∧
      ∀ base : Heap, K.In base → base.Ns mainGlobals mg → (∀ p ∈ cs, TabB base mg p.1 p.2) → FnOkG PY w K mg base CX0 8 fa fd ["script"] sp := by
  have e := hfa.symm.trans (glo_ok X G (c.d.fact 13 (f := .glo "law") rfl))
  cases e
  have FL : FunD K "law" "law" (defArgs sLaw) (defBody sLaw) (defScope sLaw) [] [] (ga K "law") (fdOf K (ga K "law")) := funD_at (c.d.def_ 13 (d := ⟨("law", none), "law", "law", defArgs (top 68), defBody (top 68), defScope (top 68), [], []⟩) rfl)
  have b := FunD.bindsA (ps := ["script"]) FL fun _ _ _ _ _ _ us hl => match us, hl with | [_], _ => rfl
  refine ⟨K, _, tfY.map (He.cT K), spLaw K (TbY K), X, fun p hp => ?_, fun s v => b s [v] rfl, fun H a ns hH hS => ⟨a, ns, rfl, hS, tabs0 fun p hp => ?_, fun _ => rfl⟩, fun base KB GB TB => ?_⟩
  · obtain ⟨d, hd, rfl⟩ := List.mem_map.mp hp
    obtain ⟨t1, t2, t3⟩ := c.tab d hd
    exact ⟨t3, t2, PySem.W.codeHd_of_K X t1⟩
  · unfold TbY at hp
    simp only [List.mem_cons, List.not_mem_nil, or_false] at hp
    rcases hp with rfl | rfl | rfl | rfl
    · exact hH (He.cT K ("_law_e_first", none)) (List.mem_map_of_mem (List.mem_of_getElem? (i := 0) rfl))
    · exact hH (He.cT K ("_law_e_second", none)) (List.mem_map_of_mem (List.mem_of_getElem? (i := 1) rfl))
    · exact hH (He.cT K ("_law_e_third", none)) (List.mem_map_of_mem (List.mem_of_getElem? (i := 2) rfl))
    · exact hH (He.cT K ("_law_e_fourth", none)) (List.mem_map_of_mem (List.mem_of_getElem? (i := 3) rfl))
  · exact law_ok (n := 0) (lawTY (w := w) X G c TB) (goodY (txtY X G c) 6) FL
end LW
open PySem PySem.W PySem.Calls PyProof.Rows
theorem PySem.Challenge.cw_seriesmill_k00_errors_made_holds : PySem.Challenge.rw_seriesmill_k00_errors_made.Holds := by
  w_on; o_law
  refine HandSHeadRun.head_any (r := LW.RY) (q := view LW.RY.prog [68]) (H := LW.hkY) (ob := LW.obY_) (M := 20000) (loose := LW.looseY) (d := HandSHeadRun.topDef LW.RY.prog 68) (kwd := []) LW.obY_eq
    (by kernel_rfl) (fun s => by kernel_rfl) LW.runY (by kernel_rfl) (by kernel_rfl) (by kernel_rfl) (by rfl) (by first | assumption | decide +kernel) (by decide +kernel) ⟨rfl, rfl, rfl, rfl, rfl, by decide +kernel⟩ ?hw ?hc
  case hw => w_witness2
  case hc =>
    refine Ev.walk_ofG (l := PySem.Challenge.rw_seriesmill_k00_errors_made) (n := 63) (k := 8) (x := "script") rfl (by decide) (by kernel_rfl) ⟨rfl, by decide, by decide⟩ ?F
    intro w mg fa h Y G hmg0
    obtain ⟨K, KX, c⟩ := Y
    have hmg : mg ("law" : PySem.Str) = some (.ref fa) := by
      have e : (HandSHeadRun.topDef LW.RY.prog 68).name = ("law" : PySem.Str) := by kernel_rfl
      rw [← e]
      exact hmg0
    exact LW.lawY KX G hmg c
