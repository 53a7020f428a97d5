import PyProof.Rows.All
import Wide.All
import OpenK.AllK
import Wide.FinOn
import HandS.ForMost
import HandS.ForExc
import HandS.Wide
import HandS.CallSlots
import HandS.Zip
import HandS.EndBits
import KE.DataEq
import KE.DataCmp
import KE.DataIsa
import KE.DataAny
import KE.DataFind
import KE.DataMinMax
import KE.SortData
import KE.KDictKeyed
import KE.KeyNested
import HandS.TupAny
import HandS.TupMul
import HandS.Style
import HandS.Deep
import HandS.Iter
import KE.GoesMore
import KE.GoesEnum
import KE.GoesZip
import PyProof.EnumMake
import HandS.TupSets
import HandS.Strs
import HandS.Small
import HandS.Dict
import HandS.Conv
import HandS.TryOnly
import HandS.ExcOwn
import HandS.ExcIs
import HandS.HeadHook1
import HandS.Defaults
import HandS.HeadHook2
import HandS.HeadEnd
import HandS.WordsExc
import HandS.Head2
import HandS.Head0
import HandS.Head1
import KE.KStateDown
import PySem.Challenge.RW_fullpipes_k05_runs
set_option Elab.async false
set_option linter.all false
set_option maxRecDepth 100000
/-! A small language over pure data, with values as PyData: its terms, its meaning. -/
namespace Fp
open PySem PySem.Spec PyProof.Rows L2

abbrev D := PyData

/-- an answer: a value, a refusal by its class's name, or no answer -/
inductive R (α : Type) where
  | ok (a : α)
  | ex (c : Str)
  | no
def R.bind {α β : Type} : R α → (α → R β) → R β
  | .ok a, f => f a
  | .ex c, _ => .ex c
  | .no, _ => .no
theorem R.bind_ok {α β : Type} (a : α) (f : α → R β) : (R.ok a).bind f = f a := rfl
theorem R.bind_ex {α β : Type} (c : Str) (f : α → R β) : (R.ex c : R α).bind f = .ex c := rfl
theorem R.bind_no {α β : Type} (f : α → R β) : (R.no : R α).bind f = .no := rfl

inductive Slot where
  | un
  | val (d : D)
  | own (d : D)
  | exc (c : Str)
abbrev Env := List Slot
/-- c is d, or below it -/
def isSub (c d : Str) : Bool := decide (c = d) || decide (d = "PipeError")

/-! ### operations on data -/
def fine (d : D) : Bool := d.plain && decide (d.depth ≤ 60)
def dEq (a b : D) : R Bool := if fine a && fine b then .ok (PyData.eqv a b) else .no
def noneD : D → Bool
  | .none => true
  | _ => false
def dLt (a b : D) : R Bool := if PySem.W.alike a b && PySem.W.alike b a && !noneD a && !noneD b && decide (a.depth ≤ 60) then .ok (PySem.W.dataLt a b) else .no
def dLe (a b : D) : R Bool := if PySem.W.alike a b && PySem.W.alike b a && !noneD a && !noneD b && decide (a.depth ≤ 60) then .ok (!PySem.W.dataLt b a) else .no
/-- x in c -/
def dIn (x : D) : D → R Bool
  | .list ds => if fine x && fine (.list ds) then .ok (ds.any fun z => PyData.eqv z x) else .no
  | .tuple ds => if fine x && fine (.tuple ds) then .ok (ds.any fun z => PyData.eqv z x) else .no
  | .str z => match x with
    | .str y => (match y.cps.toList with
      | [c] => .ok (decide (c ∈ z.cps.toList))
      | _ => .no)
    | _ => .no
  | _ => .no
inductive Bop where
  | add | sub | mul | fdiv | mod | pow
def dAdd : D → D → R D
  | .int i, .int j => .ok (.int (i + j))
  | .str x, .str y => if x.length + y.length ≤ 16777216 then .ok (.str (x ++ y)) else .no
  | .list xs, .list ys => if xs.length + ys.length ≤ 16777216 then .ok (.list (xs ++ ys)) else .no
  | .tuple xs, .tuple ys => if xs.length + ys.length ≤ 16777216 then .ok (.tuple (xs ++ ys)) else .no
  | _, _ => .no
/-- xs * n -/
def repD (xs : List D) (n : Int) : List D := (List.replicate n.toNat xs).flatten
def dMul : D → D → R D
  | .int i, .int j => if (decide (-(2 ^ 64) < i) && decide (i < 2 ^ 64)) || (decide (-(2 ^ 64) < j) && decide (j < 2 ^ 64)) then .ok (.int (i * j)) else .no
  | .list xs, .int j => if decide (-(2 ^ 62) ≤ j) && decide (j < 2 ^ 62) && decide (xs.length * j.toNat ≤ 16777216) then .ok (.list (repD xs j)) else .no
  | .tuple xs, .int j => if decide (2 ≤ j) && decide (j ≤ 1000) && decide (xs.length ≤ 1000) && !xs.isEmpty then .ok (.tuple (repD xs j)) else .no
  | _, _ => .no
def dBin : Bop → D → D → R D
  | .add, a, b => dAdd a b
  | .sub, .int i, .int j => .ok (.int (i - j))
  | .mul, a, b => dMul a b
  | .fdiv, .int i, .int j => if decide (0 < j) && decide (j.natAbs.log2 < 9000) then .ok (.int (i / j)) else .no
  | .mod, .int i, .int j => if 0 < j then .ok (.int (i % j)) else .no
  | .pow, .int i, .int j => if decide (0 ≤ j) && decide (j ≤ 1000000) && decide (i.natAbs < 2 ^ 64) then .ok (.int (i ^ j.toNat)) else .no
  | _, _, _ => .no
def dNeg : D → R D
  | .int i => .ok (.int (-i))
  | _ => .no
inductive Cop where
  | eq | ne | lt | gt | le | ge | isin | notin
def dCmp : Cop → D → D → R Bool
  | .eq, a, b => dEq a b
  | .ne, a, b => (dEq a b).bind fun k => .ok (!k)
  | .lt, a, b => dLt a b
  | .gt, a, b => dLt b a
  | .le, a, b => dLe a b
  | .ge, a, b => dLe b a
  | .isin, a, b => dIn a b
  | .notin, a, b => (dIn a b).bind fun k => .ok (!k)
def ofO {α : Type} : Option α → R α
  | some a => .ok a
  | none => .no
def dIdx : D → D → R D
  | .list xs, .int i => ofO (atI xs i)
  | .tuple xs, .int i => ofO (atI xs i)
  | .str z, .int i => if decide (z.length ≤ 16777216) then (ofO (atI z.cps.toList i)).bind fun c => .ok (.str ⟨#[c]⟩) else .no
  | _, _ => .no
def cutD (xs : List D) (lo hi : Option Int) : List D := (xs.drop (HT.sIx xs.length 0 lo)).take (HT.sIx xs.length xs.length hi - HT.sIx xs.length 0 lo)
def dSli : D → Option Int → Option Int → R D
  | .list xs, lo, hi => .ok (.list (cutD xs lo hi))
  | .tuple xs, lo, hi => .ok (.tuple (cutD xs lo hi))
  | _, _, _ => .no
def dRev : D → R D
  | .list xs => .ok (.list xs.reverse)
  | .tuple xs => .ok (.tuple xs.reverse)
  | _ => .no
inductive Ty where
  | int | bool | str | tuple | list
def isTy : Ty → D → Bool
  | .int, d => d.isInt
  | .bool, d => d.isBool
  | .str, d => d.isStr
  | .tuple, d => d.isTuple
  | .list, d => d.isList
/-- what is walked -/
def itemsD : D → R (List D)
  | .list xs => .ok xs
  | .tuple xs => .ok xs
  | .str z => .ok (z.cps.toList.map fun c => .str ⟨#[c]⟩)
  | _ => .no
def boolsD : List D → R (List Bool)
  | [] => .ok []
  | .bool b :: r => (boolsD r).bind fun bs => .ok (b :: bs)
  | _ :: _ => .no
def intsD : List D → R (List Int)
  | [] => .ok []
  | .int i :: r => (intsD r).bind fun is => .ok (i :: is)
  | _ :: _ => .no
/-- alike, none None: what sorted and min take -/
def allAlike (xs : List D) : Bool := xs.all fun x => xs.all fun y => PySem.W.alike x y
def sortD (xs : List D) : List D := xs.mergeSort (PySem.W.dataLe false id)
def sortable (xs : List D) : Bool := (xs.all fun d => match d with
    | .tuple (_ :: _) => true
    | _ => false) || xs.all fun d => match d with
    | .none => false
    | .tuple _ => false
    | _ => true
inductive Blt where
  | len | all | any | sum | list | tuple | sorted | min1 | max2 | min2
def dBlt : Blt → List D → R D
  | .len, [.str z] => if decide (z.length ≤ 16777216) then .ok (.int z.length) else .no
  | .len, [.list xs] => .ok (.int xs.length)
  | .len, [.tuple xs] => .ok (.int xs.length)
  | .all, [.list xs] => (boolsD xs).bind fun bs => .ok (.bool (bs.all id))
  | .any, [.list xs] => (boolsD xs).bind fun bs => .ok (.bool (bs.any id))
  | .sum, [.list xs] => (intsD xs).bind fun is => .ok (.int is.sum)
  | .list, [.list xs] => .ok (.list xs)
  | .list, [.tuple xs] => .ok (.list xs)
  | .tuple, [.list xs] => .ok (.tuple xs)
  | .tuple, [.tuple xs] => .ok (.tuple xs)
  | .tuple, [.str z] => if decide (z.length ≤ 16777216) then .ok (.tuple (z.cps.toList.map fun c => .str ⟨#[c]⟩)) else .no
  | .sorted, [.list xs] => if allAlike xs && sortable xs && fine (.list xs) then .ok (.list (sortD xs)) else .no
  | .min1, [.list (x :: xs)] => if allAlike (x :: xs) && sortable (x :: xs) && fine (.list (x :: xs)) then .ok (PySem.W.minD x xs) else .no
  | .max2, [.int i, .int j] => .ok (.int (if j > i then j else i))
  | .min2, [.int i, .int j] => .ok (.int (if j < i then j else i))
  | _, _ => .no
inductive Met where
  | index | count
def dMet : Met → D → List D → R D
  | .index, .list xs, [x] => if fine (.list xs) && fine x then (ofO (PySem.SeqAt.dataPlace xs x)).bind fun j => .ok (.int j) else .no
  | .count, .list xs, [x] => if fine (.list xs) && fine x then .ok (.int (xs.countP fun y => PyData.eqv y x)) else .no
  | _, _, _ => .no
/-! ### dicts: keys texts, or keys tuples (nested) -/
mutual
def nkey : D → Option NestedKey
  | .none => some .none
  | .bool b => some (.num (if b = true then 1 else 0))
  | .int i => some (.num i)
  | .str x => some (.text x)
  | .tuple xs => (nkeys xs).map .tup
  | .list _ => none
  | .dict _ => none
def nkeys : List D → Option (List NestedKey)
  | [] => some []
  | x :: xs => match nkey x, nkeys xs with
    | some k, some ks => some (k :: ks)
    | _, _ => none
end
def kEq (a b : D) : Bool := match nkey a, nkey b with
  | some x, some y => decide (x = y)
  | _, _ => false
/-- a key of a dict whose keys are texts (false), tuples (true) -/
def okK : Bool → D → Bool
  | false, .str _ => true
  | true, .tuple xs => match nkey (.tuple xs) with
    | some k => decide (k.depth ≤ 8)
    | none => false
  | _, _ => false
def dFind (ps : List (D × D)) (k : D) : Option D := (ps.find? fun p => kEq p.1 k).map (·.2)
def dStore (ps : List (D × D)) (k v : D) : List (D × D) := if (ps.any fun p => kEq p.1 k) = true then ps.map (fun p => if kEq p.1 k = true then (p.1, v) else p) else ps ++ [(k, v)]
def dMerge (ps more : List (D × D)) : List (D × D) := more.foldl (fun acc p => dStore acc p.1 p.2) ps
def dGet (t : Bool) (ps : List (D × D)) (k : D) : R D := if okK t k = true then ofO (dFind ps k) else .no
def dHas (t : Bool) (ps : List (D × D)) (k : D) : R Bool := if okK t k = true then .ok (dFind ps k).isSome else .no
def dPut (t : Bool) (ps : List (D × D)) (k v : D) : R (List (D × D)) := if okK t k = true ∧ ps.length < 16777216 then .ok (dStore ps k v) else .no
def pairsD (t : Bool) : List D → R (List (D × D))
  | [] => .ok []
  | .tuple [k, v] :: r => if okK t k = true then (pairsD t r).bind fun ps => .ok ((k, v) :: ps) else .no
  | _ :: _ => .no
/-- a dict as data: keys texts, or keys tuples -/
def dV (t : Bool) (ps : List (D × D)) : D := if t = true then .tuple [.dict ps] else .dict ps
def dOf (t : Bool) : D → R (List (D × D))
  | .list xs => (pairsD t xs).bind fun ps => .ok (dMerge [] ps)
  | .tuple xs => (pairsD t xs).bind fun ps => .ok (dMerge [] ps)
  | _ => .no
/-! ### terms -/
inductive Tg where
  | nm (i : Nat)
  | t2 (a b : Tg)
  | t3 (a b c : Tg)
/-- is None, is True, is False -/
inductive Kc where
  | non | tru | fls
mutual
inductive E where
  | slot (i : Nat)
  | bor (i : Nat)
  | cst (d : D)
  | glo (x : Str) (d : D)
  | tup (es : Es)
  | lst (es : Es)
  | bin (o : Bop) (a b : E)
  | neg (a : E)
  | cmp (o : Cop) (a b : E)
  | chn (a b c : E)
  | and (a b : E)
  | or (a b : E)
  | not (a : E)
  | ite (c a b : E)
  | idx (a i : E)
  | sli (a : E) (lo hi : Eo)
  | rev (a : E)
  | call (j : Nat) (g : List D → R D) (es : Es)
  | blt (b : Blt) (es : Es)
  | isi (a : E) (t : Ty)
  | isk (neg : Bool) (a : E) (k : Kc)
  | exi (i : Nat) (c : Str)
  | met (m : Met) (a : E) (es : Es)
  | lc (own : List Nat) (tg : Tg) (it : It) (cs : Cs) (e : E)
  | lc2 (own : List Nat) (tg : Tg) (it : It) (cs : Cs) (tg2 : Tg) (it2 : It) (cs2 : Cs) (e : E)
  | dget (d : DE) (k : E)
  | din (n : Bool) (k : E) (d : DE)
  | sel (js : List Nat) (gs : List (List D → R D)) (i : E) (es : Es)
inductive DE where
  | slot (i : Nat)
  | emp (t : Bool)
  | of (t : Bool) (e : E)
inductive Es where
  | nil
  | cons (e : E) (es : Es)
inductive Eo where
  | non
  | som (e : E)
inductive It where
  | dat (e : E)
  | zip (a b : E)
  | zip3 (a b c : E)
  | enu (a : E)
  | rg1 (a : E)
  | rg2 (a b : E)
inductive Cs where
  | nil
  | one (e : E)
end
/-! ### meaning -/
def idxF (gs : List (List D → R D)) : D → R (List D → R D)
  | .int i => ofO (atI gs i)
  | _ => .no
def tgv : Tg → List Nat
  | .nm i => [i]
  | .t2 a b => tgv a ++ tgv b
  | .t3 a b c => tgv a ++ (tgv b ++ tgv c)
def wipeE (env : Env) : List Nat → Env
  | [] => env
  | v :: vs => (wipeE env vs).set v .un
def asg : Tg → D → Env → R Env
  | .nm i, d, env => if i < env.length then .ok (env.set i (.val d)) else .no
  | .t2 a b, .tuple [x, y], env => (asg a x env).bind fun e => asg b y e
  | .t3 a b c, .tuple [x, y, z], env => (asg a x env).bind fun e => (asg b y e).bind fun e => asg c z e
  | _, _, _ => .no
/-- the items that stay; an exception within is no answer -/
def lcGo (f : D → R (Option D)) : List D → R (List D)
  | [] => .ok []
  | x :: xs => match f x with
    | .ok (some y) => (match lcGo f xs with
      | .ok ys => .ok (y :: ys)
      | _ => .no)
    | .ok none => lcGo f xs
    | _ => .no
def lcGo2 (f : D → R (List D)) : List D → R (List D)
  | [] => .ok []
  | x :: xs => match f x with
    | .ok ys => (match lcGo2 f xs with
      | .ok zs => .ok (ys ++ zs)
      | _ => .no)
    | _ => .no
def asB : D → R Bool
  | .bool b => .ok b
  | _ => .no
def isK : Kc → D → R Bool
  | .non, d => .ok (noneD d)
  | .tru, .bool b => .ok b
  | .fls, .bool b => .ok (!b)
  | _, _ => .no
def zipD (xs ys : List D) : List D := List.zipWith (fun x y => .tuple [x, y]) xs ys
def enumD (n : Nat) : List D → List D
  | [] => []
  | x :: xs => .tuple [.int n, x] :: enumD (n + 1) xs
def rangeD (lo : Int) (n : Nat) : List D := (List.range n).map fun (i : Nat) => PyData.int (lo + i)
def sq : D → R (List D)
  | .list xs => .ok xs
  | .tuple xs => .ok xs
  | _ => .no
def sqL : D → R (List D)
  | .list xs => .ok xs
  | _ => .no
def zipR : D → D → R (List D)
  | .list xs, .list ys => .ok (zipD xs ys)
  | .tuple xs, .tuple ys => .ok (zipD xs ys)
  | .list xs, .tuple ys => .ok (zipD xs ys)
  | .tuple xs, .list ys => .ok (zipD xs ys)
  | _, _ => .no
def zipD3 : List D → List D → List D → List D
  | x :: xs, y :: ys, z :: zs => .tuple [x, y, z] :: zipD3 xs ys zs
  | _, _, _ => []
def zipR3 (a b c : D) : R (List D) := (sq a).bind fun xs => (sq b).bind fun ys => (sq c).bind fun zs => .ok (zipD3 xs ys zs)
/-- what .index, .count are asked of -/
def sqM : Met → D → R (List D)
  | _, .list xs => .ok xs
  | .index, .tuple xs => .ok xs
  | _, _ => .no
def partO : D → R (Option Int)
  | .int i => .ok (some i)
  | _ => .no
def rng : D → D → R (List D)
  | .int i, .int j => if decide (-(2 ^ 62) ≤ i) && decide (i < 2 ^ 62) && decide (-(2 ^ 62) ≤ j) && decide (j < 2 ^ 62) then .ok (rangeD i (j - i).toNat) else .no
  | _, _ => .no
mutual
def evE : E → Env → R D
  | .slot i, env => (match env[i]? with
    | some (.val d) => .ok d
    | _ => .no)
  | .bor i, env => (match env[i]? with
    | some (.val d) => .ok d
    | some (.own (.list xs)) => .ok (.list xs)
    | _ => .no)
  | .cst d, _ => .ok d
  | .glo _ d, _ => .ok d
  | .tup es, env => (evEs es env).bind fun ds => if ds.length ≤ 16777216 then .ok (.tuple ds) else .no
  | .lst es, env => (evEs es env).bind fun ds => if ds.length ≤ 16777216 then .ok (.list ds) else .no
  | .bin o a b, env => (evE a env).bind fun x => (evE b env).bind fun y => dBin o x y
  | .neg a, env => (evE a env).bind dNeg
  | .cmp o a b, env => (evE a env).bind fun x => (evE b env).bind fun y => (dCmp o x y).bind fun k => .ok (.bool k)
  | .chn a b c, env => (evE a env).bind fun x => (evE b env).bind fun y => (dLe x y).bind fun k =>
      if k = true then (evE c env).bind fun z => (dLe y z).bind fun k => .ok (.bool k) else .ok (.bool false)
  | .and a b, env => (evE a env).bind fun x => (asB x).bind fun k => if k = true then evE b env else .ok (.bool false)
  | .or a b, env => (evE a env).bind fun x => (asB x).bind fun k => if k = true then .ok (.bool true) else evE b env
  | .not a, env => (evE a env).bind fun x => (asB x).bind fun k => .ok (.bool (!k))
  | .ite c a b, env => (evE c env).bind fun x => (asB x).bind fun k => if k = true then evE a env else evE b env
  | .idx a i, env => (evE a env).bind fun x => (evE i env).bind fun y => dIdx x y
  | .sli a lo hi, env => (evE a env).bind fun x => (evEo lo env).bind fun l => (evEo hi env).bind fun h => dSli x l h
  | .rev a, env => (evE a env).bind dRev
  | .call _ g es, env => (evEs es env).bind g
  | .blt b es, env => (evEs es env).bind (dBlt b)
  | .isi a t, env => (evE a env).bind fun x => .ok (.bool (isTy t x))
  | .isk n a k, env => (evE a env).bind fun x => (isK k x).bind fun b => .ok (.bool (n != b))
  | .exi i c, env => (match env[i]? with
    | some (.exc d) => .ok (.bool (isSub d c))
    | _ => .no)
  | .met m a es, env => (evE a env).bind fun x => (sqM m x).bind fun xs => (evEs es env).bind fun ys => dMet m (.list xs) ys
  | .lc own tg it cs e, env => (evIt it env).bind fun xs =>
      (lcGo (fun x => (asg tg x (wipeE env own)).bind fun env' => (evCs cs env').bind fun k => if k = true then (evE e env').bind fun y => .ok (some y) else .ok none) xs).bind fun ys => if ys.length ≤ 16777216 then .ok (.list ys) else .no
  | .lc2 own tg it cs tg2 it2 cs2 e, env => (evIt it env).bind fun xs =>
      (lcGo2 (fun x => (asg tg x (wipeE env own)).bind fun env' => (evCs cs env').bind fun k => if k = true then (evIt it2 env').bind fun zs =>
          lcGo (fun z => (asg tg2 z (wipeE env' (tgv tg2))).bind fun env2 => (evCs cs2 env2).bind fun k => if k = true then (evE e env2).bind fun y => .ok (some y) else .ok none) zs
        else .ok []) xs).bind fun ys => if ys.length ≤ 16777216 then .ok (.list ys) else .no
  | .dget d k, env => (evD d env).bind fun x => (evE k env).bind fun y => dGet x.1 x.2 y
  | .din n k d, env => (evE k env).bind fun y => (evD d env).bind fun x => (dHas x.1 x.2 y).bind fun b => .ok (.bool (n != b))
  | .sel _ gs i es, env => (evE i env).bind fun x => (idxF gs x).bind fun g => (evEs es env).bind g
def evD : DE → Env → R (Bool × List (D × D))
  | .slot i, env => (match env[i]? with
    | some (.own (.dict ps)) => .ok (false, ps)
    | some (.own (.tuple [.dict ps])) => .ok (true, ps)
    | _ => .no)
  | .emp t, _ => .ok (t, [])
  | .of t e, env => (evE e env).bind fun x => (dOf t x).bind fun ps => .ok (t, ps)
def evEs : Es → Env → R (List D)
  | .nil, _ => .ok []
  | .cons e es, env => (evE e env).bind fun x => (evEs es env).bind fun xs => .ok (x :: xs)
def evEo : Eo → Env → R (Option Int)
  | .non, _ => .ok none
  | .som e, env => (evE e env).bind partO
def evIt : It → Env → R (List D)
  | .dat e, env => (evE e env).bind itemsD
  | .zip a b, env => (evE a env).bind fun x => (evE b env).bind fun y => zipR x y
  | .zip3 a b c, env => (evE a env).bind fun x => (evE b env).bind fun y => (evE c env).bind fun z => zipR3 x y z
  | .enu a, env => (evE a env).bind fun x => (sq x).bind fun xs => .ok (enumD 0 xs)
  | .rg1 a, env => (evE a env).bind fun x => rng (.int 0) x
  | .rg2 a b, env => (evE a env).bind fun x => (evE b env).bind fun y => rng x y
def evCs : Cs → Env → R Bool
  | .nil, _ => .ok true
  | .one e, env => (evE e env).bind asB
end
/-! ### statements -/
inductive Fl where
  | nx (e : Env)
  | rt (d : D)
  | ex (c : Str) (e : Env)
  | no
inductive Ps where
  | nil
  | cons (i : Nat) (o : Bool) (e : E) (r : Ps)
mutual
inductive S where
  | asn (tg : Tg) (e : E)
  | own (i : Nat) (e : E)
  | frz (i : Nat)
  | par (l : Ps)
  | sti (i : Nat) (ix e : E)
  | app (i : Nat) (e : E)
  | appop (i j : Nat) (e : E)
  | extd (i : Nat) (e : E)
  | dnew (i : Nat) (d : DE)
  | dst (i : Nat) (k e : E)
  | dpar (i : Nat) (k e1 : E) (j : Nat) (e2 : E)
  | ife (c : E) (a b : Ss)
  | for (tg : Tg) (it : It) (b : Ss)
  | whl (c : E) (b : Ss)
  | ret (e : E)
  | rse (c : Str)
  | exp (e : E)
  | pas
  | tryx (b : Ss) (i : Nat) (c : Str) (ks : List Str) (h : Ss)
  | tryo (b : Ss) (c : Str) (ks : List Str) (h : Ss)
inductive Ss where
  | nil
  | cons (s : S) (r : Ss)
end
def ofR (env : Env) (x : R D) (f : D → Fl) : Fl := match x with
  | .ok d => f d
  | .ex c => .ex c env
  | .no => .no
def ofE (x : R Env) : Fl := match x with
  | .ok e => .nx e
  | _ => .no
def Fl.andThen (x : Fl) (f : Env → Fl) : Fl := match x with
  | .nx e => f e
  | r => r
def setS (i : Nat) (s : Slot) (env : Env) : R Env := if i < env.length then .ok (env.set i s) else .no
def slotOf (o : Bool) (d : D) : R Slot := if o = true then (match d with
    | .list _ => .ok (.own d)
    | _ => .no) else .ok (.val d)
/-- all are reckoned first, then stored -/
def evPs : Ps → Env → R (List (Nat × Slot))
  | .nil, _ => .ok []
  | .cons i o e r, env => (evE e env).bind fun d => (slotOf o d).bind fun s => (evPs r env).bind fun l => .ok ((i, s) :: l)
def setAll : List (Nat × Slot) → Env → R Env
  | [], env => .ok env
  | (i, s) :: r, env => (setS i s env).bind fun e => setAll r e
def ownL (env : Env) (i : Nat) : R (List D) := match env[i]? with
  | some (.own (.list xs)) => .ok xs
  | _ => .no
def forGo (f : D → Env → Fl) : List D → Env → Fl
  | [], env => .nx env
  | x :: xs, env => (f x env).andThen (forGo f xs)
def whlGo (c : Env → R D) (b : Env → Fl) : Nat → Env → Fl
  | 0, _ => .no
  | n + 1, env => ofR env (c env) fun d => match d with
    | .bool true => (b env).andThen (whlGo c b n)
    | .bool false => .nx env
    | _ => .no
def noExc (env : Env) : Env := env.map fun s => match s with
  | .exc _ => .un
  | s => s
/-- more turns than any loop takes -/
def turns : Nat := 1000000
def withO (env : Env) (i : Nat) (f : List D → Fl) : Fl := match env[i]? with
  | some (.own (.list xs)) => f xs
  | _ => .no
def withD (env : Env) (i : Nat) (f : Bool → List (D × D) → Fl) : Fl := match env[i]? with
  | some (.own (.dict ps)) => f false ps
  | some (.own (.tuple [.dict ps])) => f true ps
  | _ => .no
mutual
def exS : S → Env → Fl
  | .asn tg e, env => ofR env (evE e env) fun d => ofE (asg tg d env)
  | .own i e, env => ofR env (evE e env) fun d => match d with
    | .list xs => ofE (setS i (.own (.list xs)) env)
    | _ => .no
  | .frz i, env => (match env[i]? with
    | some (.own (.list xs)) => .nx (env.set i (.val (.list xs)))
    | some (.own _) => .no
    | _ => .nx env)
  | .par l, env => (match evPs l env with
    | .ok l => ofE (setAll l env)
    | .ex c => .ex c env
    | .no => .no)
  | .sti i ix e, env => ofR env (evE e env) fun d => withO env i fun xs => ofR env (evE ix env) fun k => match k with
    | .int n => (match ixN xs.length n with
      | some j => .nx (env.set i (.own (.list (xs.set j d))))
      | none => .no)
    | _ => .no
  | .app i e, env => withO env i fun xs => ofR env (evE e env) fun d => ofE (if xs.length < 16777216 then setS i (.own (.list (xs ++ [d]))) env else .no)
  | .appop i j e, env => withO env i fun xs => withO env j fun ys => if i = j then .no else ofR env (evE e env) fun k => match k with
    | .int n => (match ixN ys.length n with
      | some m => (match ys[m]? with
        | some d => if xs.length < 16777216 ∧ ys.length ≤ 16777216 then .nx ((env.set j (.own (.list (ys.eraseIdx m)))).set i (.own (.list (xs ++ [d])))) else .no
        | none => .no)
      | none => .no)
    | _ => .no
  | .extd i e, env => withO env i fun xs => ofR env (evE e env) fun d => ofE ((sq d).bind fun ds => if xs.length + ds.length ≤ 16777216 then setS i (.own (.list (xs ++ ds))) env else .no)
  | .dnew i d, env => (match evD d env with
    | .ok (t, ps) => ofE (setS i (.own (dV t ps)) env)
    | .ex c => .ex c env
    | .no => .no)
  | .dst i k e, env => ofR env (evE e env) fun v => withD env i fun t ps => ofR env (evE k env) fun y => (match dPut t ps y v with
    | .ok ps' => .nx (env.set i (.own (dV t ps')))
    | _ => .no)
  | .dpar i k e1 j e2, env => ofR env (evE e1 env) fun v => ofR env (evE e2 env) fun w => withD env i fun t ps => ofR env (evE k env) fun y => (match dPut t ps y v with
    | .ok ps' => ofE (setS j (.val w) (env.set i (.own (dV t ps'))))
    | _ => .no)
  | .ife c a b, env => ofR env (evE c env) fun d => match d with
    | .bool true => exSs a env
    | .bool false => exSs b env
    | _ => .no
  | .for tg it b, env => (match evIt it env with
    | .ok xs => forGo (fun x env => match asg tg x env with
      | .ok e => exSs b e
      | _ => .no) xs env
    | .ex c => .ex c env
    | .no => .no)
  | .whl c b, env => whlGo (evE c) (exSs b) turns env
  | .ret e, env => ofR env (evE e env) fun d => .rt d
  | .rse c, env => .ex c env
  | .exp e, env => ofR env (evE e env) fun _ => .nx env
  | .pas, env => .nx env
  | .tryx b i c ks h, env => (match exSs b env with
    | .ex d e => if ks.contains d = false then .no else if isSub d c = true then (match setS i (.exc d) (noExc e) with
      | .ok e => (match exSs h e with
        | .nx e => ofE (setS i .un (noExc e))
        | .rt d => .rt d
        | _ => .no)
      | _ => .no) else .ex d e
    | r => r)
  | .tryo b c ks h, env => (match exSs b env with
    | .ex d e => if ks.contains d = false then .no else if isSub d c = true then (match exSs h (noExc e) with
      | .nx e => .nx (noExc e)
      | .rt d => .rt d
      | _ => .no) else .ex d e
    | r => r)
def exSs : Ss → Env → Fl
  | .nil, env => .nx env
  | .cons s r, env => (exS s env).andThen (exSs r)
end
/-- how a body ends -/
def Fl.out : Fl → R D
  | .rt d => .ok d
  | .nx _ => .ok .none
  | .ex c _ => .ex c
  | .no => .no
/-- a def: its parameters, its slots, its body -/
def runF (np n : Nat) (b : Ss) : List D → R D := fun ds => if ds.length = np then (exSs b (ds.map .val ++ List.replicate (n - np) .un)).out else .no
end Fp

set_option Elab.async false
set_option linter.all false
set_option maxRecDepth 100000
/-! What the terms stand for: a text's syntax is held against a term; the frozen heap, the owned lists. -/
namespace Fp
open PySem PySem.Spec PyProof.Rows L2

/-! ### a text against a term -/
/-- what of the module is known: a def's slots, the defs by number (the first lim may be called), constants, free names -/
structure Gx where
  N : List Str
  fns : List Str
  lim : Nat
  cns : List (Str × D)
  fre : List Str
  exs : List Str
  ars : List Nat
  ise : Bool
/-- where one stands: the scope, which names may be stored, whether an exception is handled -/
structure Bk where
  sc : Scope
  st : Str → Bool
  hot : Bool
def isVis (sc : Scope) (x : Str) : Bool := match sc.names.lookup x with
  | some .local => true
  | some .cell => true
  | some .free => true
  | _ => false
def isLocal (sc : Scope) (x : Str) : Bool := match sc.names.lookup x with
  | some .local => true
  | _ => false
def isOwn (sc : Scope) (x : Str) : Bool := match sc.names.lookup x with
  | some .local => true
  | some .cell => true
  | _ => false
def isGl (sc : Scope) (x : Str) : Bool := match sc.names.lookup x with
  | some .globalImplicit => true
  | _ => false
def okNm (x : Str) : Bool := !(x == ("__debug__" : Str)) && !(x == ("__classdict__" : Str)) && !(x == ("__name__" : Str))
def nameAt (G : Gx) (bk : Bk) (i : Nat) (x : Str) : Bool := decide (G.N[i]? = some x) && isVis bk.sc x && okNm x
def cstIs : D → Const → Bool
  | .none, .none => true
  | .bool a, .bool b => a == b
  | .int a, .int b => decide (a = b)
  | .str a, .str b => decide (a = b)
  | _, _ => false
def eqC : D → D → Bool
  | .int a, .int b => decide (a = b)
  | .str a, .str b => decide (a = b)
  | _, _ => false
def bopIs : Bop → Operator → Bool
  | .add, .Add => true
  | .sub, .Sub => true
  | .mul, .Mult => true
  | .fdiv, .FloorDiv => true
  | .mod, .Mod => true
  | .pow, .Pow => true
  | _, _ => false
def copIs : Cop → CmpOp → Bool
  | .eq, .Eq => true
  | .ne, .NotEq => true
  | .lt, .Lt => true
  | .gt, .Gt => true
  | .le, .LtE => true
  | .ge, .GtE => true
  | .isin, .In => true
  | .notin, .NotIn => true
  | _, _ => false
def bltNm : Blt → Str
  | .len => "len"
  | .all => "all"
  | .any => "any"
  | .sum => "sum"
  | .list => "list"
  | .tuple => "tuple"
  | .sorted => "sorted"
  | .min1 => "min"
  | .max2 => "max"
  | .min2 => "min"
def bltN : Blt → Nat
  | .max2 => 2
  | .min2 => 2
  | _ => 1
def tyNm : Ty → Str
  | .int => "int"
  | .bool => "bool"
  | .str => "str"
  | .tuple => "tuple"
  | .list => "list"
def metNm : Met → Str
  | .index => "index"
  | .count => "count"
def kcIs : Kc → Const → Bool
  | .non, .none => true
  | .tru, .bool true => true
  | .fls, .bool false => true
  | _, _ => false
def chkTg (G : Gx) (bk : Bk) : Tg → Expr → Bool
  | .nm i, .Name x _ => decide (G.N[i]? = some x) && bk.st x
  | .t2 a b, .Tuple [x, y] _ _ => chkTg G bk a x && chkTg G bk b y
  | .t3 a b c, .Tuple [x, y, z] _ _ => chkTg G bk a x && chkTg G bk b y && chkTg G bk c z
  | _, _ => false
def Es.len : Es → Nat
  | .nil => 0
  | .cons _ r => r.len + 1
def isTupE : Expr → Bool
  | .Tuple _ _ _ => true
  | _ => false
/-- the block of a comprehension -/
def blkBk (bk : Bk) (scope : Scope) : Bk := ⟨relS scope bk.sc, isOwn scope, bk.hot⟩
def ownP (N : List Str) (own : List Nat) : List (Str × Nat) := own.map fun i => (N.getD i Str.empty, i)
/-- names of defs, each of n parameters -/
def chkFs (G : Gx) (bk : Bk) : List Nat → Nat → List Expr → Bool
  | [], _, [] => true
  | j :: js, n, .Name x _ :: r => decide (G.fns[j]? = some x) && decide (j < G.lim) && isGl bk.sc x && okNm x && decide (G.ars[j]? = some n) && chkFs G bk js n r
  | _, _, _ => false
mutual
def chkE (G : Gx) (bk : Bk) (bor : Bool) : E → Expr → Bool
  | .slot i, .Name x _ => nameAt G bk i x
  | .bor i, .Name x _ => bor && nameAt G bk i x
  | .cst d, .Constant c _ _ => cstIs d c
  | .glo x d, .Name y _ => decide (x = y) && isGl bk.sc y && okNm y && (G.cns.any fun p => decide (p.1 = y) && eqC p.2 d)
  | .tup es, .Tuple xs _ _ => chkEs G bk false es xs
  | .lst es, .List xs _ => chkEs G bk false es xs
  | .bin o a b, .BinOp x op y _ => bopIs o op && chkE G bk true a x && chkE G bk true b y
  | .neg a, .UnaryOp .USub x _ => chkE G bk false a x
  | .cmp o a b, .Compare x [op] [y] _ => copIs o op && chkE G bk true a x && chkE G bk true b y
  | .chn a b c, .Compare x [.LtE, .LtE] [y, z] _ => chkE G bk false a x && chkE G bk false b y && chkE G bk false c z
  | .and a b, .BoolOp .And (x :: y :: r) pos => chkE G bk false a x && (match r with
    | [] => chkE G bk false b y
    | _ :: _ => chkE G bk false b (.BoolOp .And (y :: r) pos))
  | .or a b, .BoolOp .Or (x :: y :: r) pos => chkE G bk false a x && (match r with
    | [] => chkE G bk false b y
    | _ :: _ => chkE G bk false b (.BoolOp .Or (y :: r) pos))
  | .not a, .UnaryOp .Not x _ => chkE G bk false a x
  | .ite c a b, .IfExp c' a' b' _ => chkE G bk false c c' && chkE G bk false a a' && chkE G bk false b b'
  | .idx a i, .Subscript x y _ => chkE G bk true a x && chkE G bk false i y
  | .sli a lo hi, .Subscript x (.Slice l h none _) _ => chkE G bk true a x && chkEo G bk lo l && chkEo G bk hi h
  | .rev a, .Subscript x (.Slice none none (some (.UnaryOp .USub (.Constant (.int 1) _ _) _)) _) _ => chkE G bk true a x
  | .call j _ es, .Call (.Name x _) xs [] _ => !bk.hot && decide (G.fns[j]? = some x) && decide (j < G.lim) && isGl bk.sc x && okNm x && decide (0 < es.len) && decide (G.ars[j]? = some es.len) && chkEs G bk false es xs
  | .blt b es, .Call (.Name x _) xs [] _ => !bk.hot && decide (x = bltNm b) && G.fre.contains x && isGl bk.sc x && decide (es.len = bltN b) && chkEs G bk true es xs
  | .isi a t, .Call (.Name f _) [x, .Name y _] [] _ => decide (f = ("isinstance" : Str)) && G.fre.contains f && isGl bk.sc f && decide (y = tyNm t) && G.fre.contains y && isGl bk.sc y && chkE G bk true a x
  | .isk n a k, .Compare x [op] [.Constant c _ _] _ => (match op with
    | .Is => !n
    | .IsNot => n
    | _ => false) && kcIs k c && chkE G bk true a x
  | .exi i c, .Call (.Name f _) [.Name x _, .Name y _] [] _ => bk.hot && decide (f = ("isinstance" : Str)) && G.fre.contains f && isGl bk.sc f && nameAt G bk i x && decide (y = c) && isGl bk.sc y && okNm y && G.exs.contains c && G.ise
  | .met m a es, .Call (.Attribute x y apos) xs [] cpos => decide (y = metNm m) && (apos.endLine == cpos.line) && decide (es.len = 1) && chkE G bk true a x && chkEs G bk false es xs
  | .lc own tg it cs e, .ListComp elt [⟨t, i, ifs, 0⟩] scope _ => !bk.hot && blkC G.N bk.sc scope (ownP G.N own) && (tgv tg).all own.contains && chkIt G bk true t it i && chkTg G (blkBk bk scope) tg t && chkCs G (blkBk bk scope) cs ifs && chkE G (blkBk bk scope) false e elt
  | .lc2 own tg it cs tg2 it2 cs2 e, .ListComp elt [⟨t, i, ifs, 0⟩, ⟨t2, i2, ifs2, 0⟩] scope _ => !bk.hot && blkC G.N bk.sc scope (ownP G.N own) && (tgv tg).all own.contains && chkIt G bk true t it i && chkTg G (blkBk bk scope) tg t && chkCs G (blkBk bk scope) cs ifs && (tgv tg2).all own.contains &&
      chkIt G (blkBk bk scope) false t2 it2 i2 && chkTg G (blkBk bk scope) tg2 t2 && chkCs G (blkBk bk scope) cs2 ifs2 && chkE G (blkBk bk scope) false e elt
  | .dget d k, .Subscript x y _ => chkD G bk d x && chkE G bk false k y
  | .din n k d, .Compare x [op] [y] _ => (match op with
    | .In => !n
    | .NotIn => n
    | _ => false) && (match d with
    | .emp _ => false
    | _ => true) && chkE G bk false k x && chkD G bk d y
  | .sel js gs i es, .Call (.Subscript (.List fs _) ix _) xs [] _ => !bk.hot && decide (gs.length = js.length) && decide (0 < js.length) && decide (js.length ≤ 16) && chkFs G bk js es.len fs && decide (0 < es.len) && chkE G bk false i ix && chkEs G bk false es xs
  | _, _ => false
def chkD (G : Gx) (bk : Bk) : DE → Expr → Bool
  | .slot i, .Name x _ => nameAt G bk i x
  | .emp _, .Dict [] [] _ => true
  | .of _ e, .Call (.Name f _) [x] [] _ => !bk.hot && decide (f = ("dict" : Str)) && G.fre.contains f && isGl bk.sc f && chkE G bk true e x
  | _, _ => false
def chkEs (G : Gx) (bk : Bk) (bor : Bool) : Es → List Expr → Bool
  | .nil, [] => true
  | .cons e es, x :: xs => chkE G bk bor e x && chkEs G bk bor es xs
  | _, _ => false
def chkEo (G : Gx) (bk : Bk) : Eo → Option Expr → Bool
  | .non, none => true
  | .som e, some x => chkE G bk false e x
  | _, _ => false
def chkIt (G : Gx) (bk : Bk) (bor : Bool) (tg : Expr) : It → Expr → Bool
  | .dat e, x => chkE G bk bor e x
  | .zip a b, .Call (.Name f _) [x, y] [] _ => decide (f = ("zip" : Str)) && G.fre.contains f && isGl bk.sc f && isTupE tg && chkE G bk bor a x && chkE G bk bor b y
  | .zip3 a b c, .Call (.Name f _) [x, y, z] [] _ => decide (f = ("zip" : Str)) && G.fre.contains f && isGl bk.sc f && isTupE tg && chkE G bk bor a x && chkE G bk bor b y && chkE G bk bor c z
  | .enu a, .Call (.Name f _) [x] [] _ => decide (f = ("enumerate" : Str)) && G.fre.contains f && isGl bk.sc f && isTupE tg && chkE G bk bor a x
  | .rg1 a, .Call (.Name f _) [x] [] _ => decide (f = ("range" : Str)) && G.fre.contains f && isGl bk.sc f && chkE G bk false a x
  | .rg2 a b, .Call (.Name f _) [x, y] [] _ => decide (f = ("range" : Str)) && G.fre.contains f && isGl bk.sc f && chkE G bk false a x && chkE G bk false b y
  | _, _ => false
def chkCs (G : Gx) (bk : Bk) : Cs → List Expr → Bool
  | .nil, [] => true
  | .one e, [x] => chkE G bk false e x
  | _, _ => false
end
/-! ### what a value stands for -/
theorem Same.seqT {K : PySem.W.Frag} {H H' : Hp} {a : Addr} {xs : List V} (e : Same H H') (h : SqT K H a xs) : SqT K H' a xs := by
  rcases h with (h | ⟨o, h⟩) | h
  · exact .inl (.inl (e _ _ h))
  · exact .inl (.inr ⟨o, e _ _ h⟩)
  · exact .inr h
theorem Same.upd {H : Hp} {p : Addr} {o : HO} (h : H p = none) : Same H (upd H p o) := fun b x e => by
  rw [upd_ne (ne_of_none e h)]
  exact e
theorem Rd.mono {H H' : Hp} {a : Addr} {o : HO} (e : Same H H') (h : Rd H a o) : Rd H' a o := by
  rcases h with h | ⟨ob, h⟩
  · exact .inl (e _ _ h)
  · exact .inr ⟨ob, e _ _ h⟩
/-- a list that is read: tracked, frozen, or an object of the module, plainly laid -/
def LsX (K : PySem.W.Frag) (H : Hp) (a : Addr) (xs : List V) : Prop := Rd H a (.lst xs) ∨ ∃ (its : List Value) (n : Nat), K.lookup a = some { cls := .type "list", data := .seq its.toArray n } ∧ Vals xs its ∧ xs.length ≤ sizeLine
theorem LsX.mono {K : PySem.W.Frag} {H H' : Hp} {a : Addr} {xs : List V} (e : Same H H') (h : LsX K H a xs) : LsX K H' a xs := by
  rcases h with h | h
  · exact .inl (Fp.Rd.mono e h)
  · exact .inr h
theorem LsX.of {K : PySem.W.Frag} {H : Hp} {a : Addr} {xs : List V} (h : H a = some (.lst xs)) : LsX K H a xs := .inl (.inl h)
theorem LsX.sq {K : PySem.W.Frag} {H : Hp} {a : Addr} {xs : List V} (h : LsX K H a xs) : SqL K H a xs := by
  rcases h with h | ⟨its, n, h1, h2, h3⟩
  · exact .inl h
  · exact .inr ⟨_, its.toArray, n, h1, rfl, rfl, rfl, by rw [List.size_toArray, ← h2.length]; exact h3, by simpa using h2⟩
/-- a tuple that is read: its very object is known, or it is the module's; without a dict of its own -/
def IsTO (o : Obj) : Prop := ∃ (its : Array Value) (n : Nat), o = { cls := .type "tuple", data := .seq its n }
def TpX (K : PySem.W.Frag) (H : Hp) (a : Addr) (xs : List V) : Prop := (∃ o, H a = some (.frz o (.tup xs)) ∧ IsTO o) ∨
  ∃ (its : Array Value) (n : Nat), K.lookup a = some { cls := .type "tuple", data := .seq its n } ∧ its.size ≤ sizeLine ∧ Vals xs its.toList
theorem TpX.mono {K : PySem.W.Frag} {H H' : Hp} {a : Addr} {xs : List V} (e : Same H H') (h : TpX K H a xs) : TpX K H' a xs := by
  rcases h with ⟨o, h1, h2⟩ | h
  · exact .inl ⟨o, e _ _ h1, h2⟩
  · exact .inr h
theorem TpX.sq {K : PySem.W.Frag} {H : Hp} {a : Addr} {xs : List V} (h : TpX K H a xs) : SqT K H a xs := by
  rcases h with ⟨o, h1, h2⟩ | ⟨its, n, h1, h5, h6⟩
  · exact .inl (.inr ⟨o, h1⟩)
  · exact .inr ⟨_, its, n, h1, rfl, rfl, h5, h6⟩
theorem TpX.new {K : PySem.W.Frag} {H : Hp} {a : Addr} {xs : List V} {o : Obj} (h : IsTO o) : TpX K (upd H a (.frz o (.tup xs))) a xs := .inl ⟨o, upd_same, h⟩
mutual
inductive Rp (K : PySem.W.Frag) (F : Hp) : V → D → Prop
  | non : Rp K F .non .none
  | bl (b : Bool) : Rp K F (.bl b) (.bool b)
  | int (i : Int) : Rp K F (.int i) (.int i)
  | str (x : Str) : Rp K F (.str x) (.str x)
  | lst {a : Addr} {xs : List V} {ds : List D} : LsX K F a xs → RpAll K F xs ds → Rp K F (.ref a) (.list ds)
  | tup {a : Addr} {xs : List V} {ds : List D} : TpX K F a xs → RpAll K F xs ds → Rp K F (.ref a) (.tuple ds)
inductive RpAll (K : PySem.W.Frag) (F : Hp) : List V → List D → Prop
  | nil : RpAll K F [] []
  | cons {v : V} {vs : List V} {d : D} {ds : List D} : Rp K F v d → RpAll K F vs ds → RpAll K F (v :: vs) (d :: ds)
end
section
variable {K : PySem.W.Frag} {F F' : Hp}
mutual
theorem Rp.dp : ∀ {v : V} {d : D}, Rp K F v d → Dp K F v d
  | _, _, .non => .non
  | _, _, .bl b => .bl b
  | _, _, .int i => .int i
  | _, _, .str x => .str x
  | _, _, .lst h t => .lst h.sq (RpAll.dp t)
  | _, _, .tup h t => .tup h.sq (RpAll.dp t)
theorem RpAll.dp : ∀ {vs : List V} {ds : List D}, RpAll K F vs ds → DpAll K F vs ds
  | _, _, .nil => .nil
  | _, _, .cons h t => .cons (Rp.dp h) (RpAll.dp t)
end
mutual
theorem Rp.mono (e : Same F F') : ∀ {v : V} {d : D}, Rp K F v d → Rp K F' v d
  | _, _, .non => .non
  | _, _, .bl b => .bl b
  | _, _, .int i => .int i
  | _, _, .str x => .str x
  | _, _, .lst h t => .lst (LsX.mono e h) (RpAll.mono e t)
  | _, _, .tup h t => .tup (TpX.mono e h) (RpAll.mono e t)
theorem RpAll.mono (e : Same F F') : ∀ {vs : List V} {ds : List D}, RpAll K F vs ds → RpAll K F' vs ds
  | _, _, .nil => .nil
  | _, _, .cons h t => .cons (Rp.mono e h) (RpAll.mono e t)
end
theorem RpAll.length : ∀ {vs : List V} {ds : List D}, RpAll K F vs ds → vs.length = ds.length
  | _, _, .nil => rfl
  | _, _, .cons _ t => congrArg (· + 1) (RpAll.length t)
theorem RpAll.get : ∀ {vs : List V} {ds : List D} {i : Nat} {d : D}, RpAll K F vs ds → ds[i]? = some d → ∃ v, vs[i]? = some v ∧ Rp K F v d
  | _, _, _, _, .nil, e => by simp at e
  | _, _, 0, _, .cons h _, e => by
    have e' := Option.some.inj (by simpa using e)
    subst e'
    exact ⟨_, rfl, h⟩
  | _, _, i + 1, d, .cons _ t, e => by
    obtain ⟨v, h1, h2⟩ := RpAll.get (i := i) (d := d) t (by simpa using e)
    exact ⟨v, by simpa using h1, h2⟩
theorem RpAll.getV : ∀ {vs : List V} {ds : List D} {i : Nat} {v : V}, RpAll K F vs ds → vs[i]? = some v → ∃ d, ds[i]? = some d ∧ Rp K F v d
  | _, _, _, _, .nil, e => by simp at e
  | _, _, 0, _, .cons h _, e => by
    have e' := Option.some.inj (by simpa using e)
    subst e'
    exact ⟨_, rfl, h⟩
  | _, _, i + 1, d, .cons _ t, e => by
    obtain ⟨v, h1, h2⟩ := RpAll.getV (i := i) (v := d) t (by simpa using e)
    exact ⟨v, by simpa using h1, h2⟩
theorem RpAll.append : ∀ {vs ws : List V} {ds es : List D}, RpAll K F vs ds → RpAll K F ws es → RpAll K F (vs ++ ws) (ds ++ es)
  | _, _, _, _, .nil, s => s
  | _, _, _, _, .cons h t, s => .cons h (RpAll.append t s)
theorem RpAll.take : ∀ {vs : List V} {ds : List D} (n : Nat), RpAll K F vs ds → RpAll K F (vs.take n) (ds.take n)
  | _, _, 0, _ => .nil
  | _, _, _ + 1, .nil => .nil
  | _, _, n + 1, .cons h t => .cons h (RpAll.take n t)
theorem RpAll.drop : ∀ {vs : List V} {ds : List D} (n : Nat), RpAll K F vs ds → RpAll K F (vs.drop n) (ds.drop n)
  | _, _, 0, h => h
  | _, _, _ + 1, .nil => .nil
  | _, _, n + 1, .cons _ t => RpAll.drop n t
theorem RpAll.set {v : V} {d : D} (h : Rp K F v d) : ∀ {vs : List V} {ds : List D} (i : Nat), RpAll K F vs ds → RpAll K F (vs.set i v) (ds.set i d)
  | _, _, _, .nil => .nil
  | _, _, 0, .cons _ t => .cons h t
  | _, _, i + 1, .cons q t => .cons q (RpAll.set h i t)
theorem RpAll.eraseIdx : ∀ {vs : List V} {ds : List D} (i : Nat), RpAll K F vs ds → RpAll K F (vs.eraseIdx i) (ds.eraseIdx i)
  | _, _, _, .nil => .nil
  | _, _, 0, .cons _ t => t
  | _, _, i + 1, .cons q t => .cons q (RpAll.eraseIdx i t)
theorem RpAll.reverse {vs : List V} {ds : List D} (h : RpAll K F vs ds) : RpAll K F vs.reverse ds.reverse := by
  induction vs generalizing ds with
  | nil => cases h; exact .nil
  | cons v vs ih =>
    cases h with
    | cons h t =>
      rw [List.reverse_cons, List.reverse_cons]
      exact (ih t).append (.cons h .nil)
theorem RpAll.rep {vs : List V} {ds : List D} (h : RpAll K F vs ds) : ∀ k : Nat, RpAll K F (List.replicate k vs).flatten (List.replicate k ds).flatten
  | 0 => .nil
  | k + 1 => by
    rw [List.replicate_succ, List.replicate_succ, List.flatten_cons, List.flatten_cons]
    exact h.append (RpAll.rep h k)
/-! ### growth -/
/-- the frozen heap F and the heap H have grown to F', H' -/
structure Ext (F H F' H' : Hp) : Prop where
  ff : Same F F'
  hh : Same H H'
  sub : Same F' H'
  new : ∀ a o, F' a = some o → (∃ u, F a = some u) ∨ H a = none
theorem Ext.refl {F H : Hp} (h : Same F H) : Ext F H F H := ⟨Same.refl _, Same.refl _, h, fun a o e => .inl ⟨o, e⟩⟩
theorem Ext.trans {F H F1 H1 F2 H2 : Hp} (a : Ext F H F1 H1) (b : Ext F1 H1 F2 H2) : Ext F H F2 H2 :=
  ⟨a.ff.trans b.ff, a.hh.trans b.hh, b.sub, fun x o e => by
    rcases b.new x o e with ⟨u, h⟩ | h
    · exact a.new x u h
    · exact .inr (a.hh.free h)⟩
/-- a new object, frozen -/
theorem Ext.frozen {F H F' H' : Hp} {p : Addr} {o : HO} (e : Ext F H F' H') (hp : H' p = none) : Ext F H (upd F' p o) (upd H' p o) := by
  have hf : F' p = none := e.sub.free hp
  refine ⟨e.ff.trans (Fp.Same.upd hf), e.hh.trans (Fp.Same.upd hp), fun b u q => ?_, fun b u q => ?_⟩
  · by_cases hb : b = p
    · subst hb
      rw [upd_same] at q ⊢
      exact q
    · rw [upd_ne hb] at q ⊢
      exact e.sub b u q
  · by_cases hb : b = p
    · subst hb
      exact .inr (e.hh.free hp)
    · rw [upd_ne hb] at q
      exact e.new b u q
/-- a new object, not frozen -/
theorem Ext.loose {F H F' H' : Hp} {p : Addr} {o : HO} (e : Ext F H F' H') (hp : H' p = none) : Ext F H F' (upd H' p o) := by
  refine ⟨e.ff, e.hh.trans (Fp.Same.upd hp), e.sub.trans (Fp.Same.upd hp), e.new⟩
/-- what is tracked and not frozen stays so -/
theorem Ext.keep {F H F' H' : Hp} {p : Addr} {o : HO} (e : Ext F H F' H') (hp : H p = some o) (hf : F p = none) : F' p = none := by
  cases q : F' p with
  | none => rfl
  | some u =>
    rcases e.new p u q with ⟨z, h⟩ | h
    · rw [hf] at h; cases h
    · rw [hp] at h; cases h
/-! ### slots -/
/-- the exception that is handled: where it lies, what is known of its class -/
structure Ea where
  a : Addr
  ok : Str → Prop
  P : Program
  w : World
def keyD : Key → D
  | .inl i => .int i
  | .inr x => .str x
inductive RpKv (K : PySem.W.Frag) (F : Hp) : List (Key × V) → List (D × D) → Prop
  | nil : RpKv K F [] []
  | cons {k : Key} {v : V} {d : D} {kvs : List (Key × V)} {ps : List (D × D)} : Rp K F v d → RpKv K F kvs ps → RpKv K F ((k, v) :: kvs) ((keyD k, d) :: ps)
theorem RpKv.mono {K : PySem.W.Frag} {F F' : Hp} (e : Same F F') {kvs : List (Key × V)} {ps : List (D × D)} (h : RpKv K F kvs ps) : RpKv K F' kvs ps := by
  induction h with
  | nil => exact .nil
  | cons h _ ih => exact .cons (Rp.mono e h) ih
/-- a dict whose keys are tuples: its entries -/
def DtO (P : Program) (w : World) (a : Addr) (xs : List (NestedKey × Addr × Value)) : HO := .ext fun h => xs.length ≤ sizeLine ∧ (a == sysModules) = false ∧ (xs.map (·.1)).Nodup ∧
  ∃ o es ep, h.get? a = some o ∧ o.ExactDict ∧ o.data = .dict es ep ∧ es.toList = xs.map (entryOfKey (nestedKind P w))
inductive RpKt (K : PySem.W.Frag) (F : Hp) : List (NestedKey × Addr × Value) → List (D × D) → Prop
  | nil : RpKt K F [] []
  | cons {k : NestedKey} {b : Addr} {u : Value} {v : V} {dk d : D} {xs : List (NestedKey × Addr × Value)} {ps : List (D × D)} : nkey dk = some k → okK true dk = true → Rp K F (.ref b) dk → RelV v u → Rp K F v d → RpKt K F xs ps → RpKt K F ((k, b, u) :: xs) ((dk, d) :: ps)
theorem RpKt.mono {K : PySem.W.Frag} {F F' : Hp} (e : Same F F') {xs : List (NestedKey × Addr × Value)} {ps : List (D × D)} (h : RpKt K F xs ps) : RpKt K F' xs ps := by
  induction h with
  | nil => exact .nil
  | cons h1 h2 h3 h4 h5 _ ih => exact .cons h1 h2 (Rp.mono e h3) h4 (Rp.mono e h5) ih
/-- what an owned dict is -/
def DicO (K : PySem.W.Frag) (F : Hp) (ea : Ea) (a : Addr) (t : Bool) (ps : List (D × D)) (o : HO) : Prop := match t with
  | false => ∃ kvs, o = .dK kvs ∧ RpKv K F kvs ps
  | true => ∃ xs, o = DtO ea.P ea.w a xs ∧ RpKt K F xs ps
/-- what an owned slot holds: a list, a dict -/
def OwnO (K : PySem.W.Frag) (F : Hp) (ea : Ea) (a : Addr) (d : D) (o : HO) : Prop := match d with
  | .list ds => ∃ vs, o = .lst vs ∧ RpAll K F vs ds
  | .dict ps => DicO K F ea a false ps o
  | .tuple [.dict ps] => DicO K F ea a true ps o
  | _ => False
theorem DicO.own {K : PySem.W.Frag} {F : Hp} {ea : Ea} {a : Addr} {t : Bool} {ps : List (D × D)} {o : HO} (h : DicO K F ea a t ps o) : OwnO K F ea a (dV t ps) o := by
  cases t with
  | false => exact h
  | true => exact h
theorem DicO.mono {K : PySem.W.Frag} {F F' : Hp} {ea : Ea} {a : Addr} (e : Same F F') {t : Bool} {ps : List (D × D)} {o : HO} (h : DicO K F ea a t ps o) : DicO K F' ea a t ps o := by
  cases t with
  | false =>
    obtain ⟨kvs, h1, h2⟩ := h
    exact ⟨kvs, h1, h2.mono e⟩
  | true =>
    obtain ⟨kvs, h1, h2⟩ := h
    exact ⟨kvs, h1, h2.mono e⟩
theorem OwnO.mono {K : PySem.W.Frag} {F F' : Hp} {ea : Ea} {a : Addr} (e : Same F F') {d : D} {o : HO} (h : OwnO K F ea a d o) : OwnO K F' ea a d o := by
  unfold OwnO at h ⊢
  split at h
  · obtain ⟨vs, h1, h2⟩ := h
    exact ⟨vs, h1, h2.mono e⟩
  · exact DicO.mono e h
  · exact DicO.mono e h
  · exact h.elim
theorem OwnO.ea {K : PySem.W.Frag} {F : Hp} {ea eb : Ea} {a : Addr} (hP : eb.P = ea.P) (hw : eb.w = ea.w) {d : D} {o : HO} (h : OwnO K F ea a d o) : OwnO K F eb a d o := by
  obtain ⟨a1, k1, P1, w1⟩ := ea
  obtain ⟨a2, k2, P2, w2⟩ := eb
  cases hP
  cases hw
  exact h
/-- F0, H0: the frozen heap and the heap at the def's entry; ea: the exception that is handled -/
def SlotOk (K : PySem.W.Frag) (H0 F H : Hp) (ea : Ea) (s : Slot) (x : Option V) : Prop := match s with
  | .un => True
  | .val d => ∃ v, x = some v ∧ Rp K F v d
  | .own d => ∃ (a : Addr) (o : HO), x = some (.ref a) ∧ OwnO K F ea a d o ∧ F a = none ∧ H0 a = none ∧ H a = some o
  | .exc n => x = some (.ref ea.a) ∧ ea.ok n
def ownA (s : Slot) (x : Option V) (a : Addr) : Prop := (∃ d, s = .own d) ∧ x = some (.ref a)
structure Rel (K : PySem.W.Frag) (F0 H0 : Hp) (ea : Ea) (env : Env) (σ : L2.St) (F H : Hp) : Prop where
  ext : Ext F0 H0 F H
  len : env.length = σ.length
  slot : ∀ (i : Nat) (s : Slot) (x : Option V), env[i]? = some s → σ[i]? = some x → SlotOk K H0 F H ea s x
  apart : ∀ (i j : Nat) (s t : Slot) (x y : Option V) (a : Addr), i ≠ j → env[i]? = some s → env[j]? = some t → σ[i]? = some x → σ[j]? = some y → ownA s x a → ¬ ownA t y a
end
end Fp

set_option Elab.async false
set_option linter.all false
set_option maxRecDepth 100000
set_option maxHeartbeats 1000000
/-! The readings by data; the rules of the operations. -/
namespace Fp
open PySem PySem.Spec PyProof.Rows L2
section
variable {K : PySem.W.Frag} {F F' H H' : Hp}
/-- frozen, or an owned list that is looked at -/
def RpB (K : PySem.W.Frag) (F H : Hp) (v : V) (d : D) : Prop := Rp K F v d ∨ ∃ a vs ds, v = .ref a ∧ d = .list ds ∧ H a = some (.lst vs) ∧ RpAll K F vs ds
theorem RpB.of {v : V} {d : D} (h : Rp K F v d) : RpB K F H v d := .inl h
theorem RpB.grow {v : V} {d : D} (e : Ext F H F' H') (h : RpB K F H v d) : RpB K F' H' v d := by
  rcases h with h | ⟨a, vs, ds, h1, h2, h3, h4⟩
  · exact .inl (h.mono e.ff)
  · exact .inr ⟨a, vs, ds, h1, h2, e.hh _ _ h3, h4.mono e.ff⟩
theorem RpB.int {v : V} {i : Int} (h : RpB K F H v (.int i)) : v = .int i := by
  rcases h with h | ⟨a, vs, ds, h1, h2, _⟩
  · cases h; rfl
  · cases h2
theorem RpB.str {v : V} {x : Str} (h : RpB K F H v (.str x)) : v = .str x := by
  rcases h with h | ⟨a, vs, ds, h1, h2, _⟩
  · cases h; rfl
  · cases h2
theorem RpB.bool {v : V} {b : Bool} (h : RpB K F H v (.bool b)) : v = .bl b := by
  rcases h with h | ⟨a, vs, ds, h1, h2, _⟩
  · cases h; rfl
  · cases h2
theorem RpB.list {v : V} {ds : List D} (s : Same F H) (h : RpB K F H v (.list ds)) : ∃ a vs, v = .ref a ∧ LsX K H a vs ∧ RpAll K F vs ds := by
  rcases h with h | ⟨a, vs, es, h1, h2, h3, h4⟩
  · cases h with
    | lst h t => exact ⟨_, _, rfl, LsX.mono s h, t⟩
  · cases h2; exact ⟨a, vs, h1, LsX.of h3, h4⟩
theorem RpB.tuple {v : V} {ds : List D} (s : Same F H) (h : RpB K F H v (.tuple ds)) : ∃ a vs, v = .ref a ∧ SqT K H a vs ∧ RpAll K F vs ds := by
  rcases h with h | ⟨a, vs, es, h1, h2, h3, h4⟩
  · cases h with
    | tup h t => exact ⟨_, _, rfl, (TpX.mono s h).sq, t⟩
  · cases h2
theorem RpB.tupleX {v : V} {ds : List D} (s : Same F H) (h : RpB K F H v (.tuple ds)) : ∃ a vs, v = .ref a ∧ TpX K H a vs ∧ RpAll K F vs ds := by
  rcases h with h | ⟨a, vs, es, h1, h2, h3, h4⟩
  · cases h with
    | tup h t => exact ⟨_, _, rfl, TpX.mono s h, t⟩
  · cases h2
theorem RpB.dp {v : V} {d : D} (s : Same F H) (h : RpB K F H v d) : Dp K H v d := by
  rcases h with h | ⟨a, vs, es, h1, h2, h3, h4⟩
  · exact (h.mono s).dp
  · subst h1 h2; exact .lst (SqL.of h3) (h4.mono s).dp
/-! ### answers -/
def Ans (K : PySem.W.Frag) (F H : Hp) (x : R D) (Q : VK) (E : Str → Hp → Prop) : Prop := match x with
  | .ok d => ∀ v F' H', Ext F H F' H' → Rp K F' v d → Q v H'
  | .ex c => ∀ F' H', Ext F H F' H' → E c H'
  | .no => False
def AnsB (K : PySem.W.Frag) (F H : Hp) (x : R D) (Q : VK) (E : Str → Hp → Prop) : Prop := match x with
  | .ok d => ∀ v F' H', Ext F H F' H' → RpB K F' H' v d → Q v H'
  | .ex c => ∀ F' H', Ext F H F' H' → E c H'
  | .no => False
/-- a list is new, and not frozen -/
def AnsG (K : PySem.W.Frag) (F H : Hp) (x : R D) (Q : VK) (E : Str → Hp → Prop) : Prop := match x with
  | .ok d => (∀ v F' H', (∀ ds, d ≠ .list ds) → Ext F H F' H' → Rp K F' v d → Q v H') ∧
      ∀ ds p vs F' H', d = .list ds → H p = none → H' p = some (.lst vs) → F' p = none → Ext F H F' H' → RpAll K F' vs ds → Q (.ref p) H'
  | .ex c => ∀ F' H', Ext F H F' H' → E c H'
  | .no => False
def AnsL (K : PySem.W.Frag) (F H : Hp) (x : R (List D)) (Q : List V → Hp → Prop) (E : Str → Hp → Prop) : Prop := match x with
  | .ok ds => ∀ vs F' H', Ext F H F' H' → RpAll K F' vs ds → Q vs H'
  | .ex c => ∀ F' H', Ext F H F' H' → E c H'
  | .no => False
inductive RpBs (K : PySem.W.Frag) (F H : Hp) : List V → List D → Prop
  | nil : RpBs K F H [] []
  | cons {v : V} {vs : List V} {d : D} {ds : List D} : RpB K F H v d → RpBs K F H vs ds → RpBs K F H (v :: vs) (d :: ds)
theorem RpBs.grow (e : Ext F H F' H') : ∀ {vs : List V} {ds : List D}, RpBs K F H vs ds → RpBs K F' H' vs ds
  | _, _, .nil => .nil
  | _, _, .cons h t => .cons (h.grow e) (RpBs.grow e t)
def AnsLB (K : PySem.W.Frag) (F H : Hp) (x : R (List D)) (Q : List V → Hp → Prop) (E : Str → Hp → Prop) : Prop := match x with
  | .ok ds => ∀ vs F' H', Ext F H F' H' → RpBs K F' H' vs ds → Q vs H'
  | .ex c => ∀ F' H', Ext F H F' H' → E c H'
  | .no => False
def AnsT (F H : Hp) (x : R Bool) (Q : Bool → Hp → Prop) (E : Str → Hp → Prop) : Prop := match x with
  | .ok b => ∀ F' H', Ext F H F' H' → Q b H'
  | .ex c => ∀ F' H', Ext F H F' H' → E c H'
  | .no => False
variable {Q : VK} {E : Str → Hp → Prop}
theorem Ext.freeze {p : Addr} {o : HO} (e : Ext F H F' H') (hp : H p = none) (ho : H' p = some o) (hf : F' p = none) : Ext F H (upd F' p o) H' := by
  refine ⟨e.ff.trans (Fp.Same.upd hf), e.hh, fun b u q => ?_, fun b u q => ?_⟩
  · by_cases hb : b = p
    · subst hb; rw [upd_same] at q; rw [ho]; exact q
    · rw [upd_ne hb] at q; exact e.sub b u q
  · by_cases hb : b = p
    · subst hb; exact .inr hp
    · rw [upd_ne hb] at q; exact e.new b u q
theorem Ans.toG {x : R D} (h : Ans K F H x Q E) : AnsG K F H x Q E := by
  cases x with
  | no => exact h
  | ex c => exact h
  | ok d =>
    refine ⟨fun v F' H' _ e r => h v F' H' e r, fun ds p vs F' H' ed hp ho hf e r => ?_⟩
    subst ed
    exact h (.ref p) (upd F' p (.lst vs)) H' (e.freeze hp ho hf) (.lst (LsX.of upd_same) (r.mono (Fp.Same.upd hf)))
theorem AnsB.toA {x : R D} (h : AnsB K F H x Q E) : Ans K F H x Q E := by
  cases x with
  | no => exact h
  | ex c => exact h
  | ok d => exact fun v F' H' e r => h v F' H' e (.inl r)
theorem Ans.ext {x : R D} {F1 H1 : Hp} (h : Ans K F H x Q E) (e : Ext F H F1 H1) : Ans K F1 H1 x Q E := by
  cases x with
  | no => exact h
  | ex c => exact fun F' H' e' => h F' H' (e.trans e')
  | ok d => exact fun v F' H' e' r => h v F' H' (e.trans e') r
theorem AnsG.ext {x : R D} {F1 H1 : Hp} (h : AnsG K F H x Q E) (e : Ext F H F1 H1) : AnsG K F1 H1 x Q E := by
  cases x with
  | no => exact h
  | ex c => exact fun F' H' e' => h F' H' (e.trans e')
  | ok d => exact ⟨fun v F' H' n e' r => h.1 v F' H' n (e.trans e') r, fun ds p vs F' H' ed hp ho hf e' r => h.2 ds p vs F' H' ed (e.hh.free hp) ho hf (e.trans e') r⟩
theorem AnsT.ext {x : R Bool} {Q : Bool → Hp → Prop} {F1 H1 : Hp} (h : AnsT F H x Q E) (e : Ext F H F1 H1) : AnsT F1 H1 x Q E := by
  cases x with
  | no => exact h
  | ex c => exact fun F' H' e' => h F' H' (e.trans e')
  | ok d => exact fun F' H' e' => h F' H' (e.trans e')
theorem AnsL.ext {x : R (List D)} {Q : List V → Hp → Prop} {F1 H1 : Hp} (h : AnsL K F H x Q E) (e : Ext F H F1 H1) : AnsL K F1 H1 x Q E := by
  cases x with
  | no => exact h
  | ex c => exact fun F' H' e' => h F' H' (e.trans e')
  | ok d => exact fun v F' H' e' r => h v F' H' (e.trans e') r
theorem AnsLB.ext {x : R (List D)} {Q : List V → Hp → Prop} {F1 H1 : Hp} (h : AnsLB K F H x Q E) (e : Ext F H F1 H1) : AnsLB K F1 H1 x Q E := by
  cases x with
  | no => exact h
  | ex c => exact fun F' H' e' => h F' H' (e.trans e')
  | ok d => exact fun v F' H' e' r => h v F' H' (e.trans e') r
/-! ### results of operations: no refusal -/
abbrev NoE : Str → Hp → Prop := fun _ _ => False
def rOp2 (K : PySem.W.Frag) (f : D → D → R D) : R2 := fun x y H Q => ∃ F a b, Same F H ∧ RpB K F H x a ∧ RpB K F H y b ∧ Ans K F H (f a b) Q NoE
def rOp2G (K : PySem.W.Frag) (f : D → D → R D) : R2 := fun x y H Q => ∃ F a b, Same F H ∧ RpB K F H x a ∧ RpB K F H y b ∧ AnsG K F H (f a b) Q NoE
def rCmp2 (K : PySem.W.Frag) (f : D → D → R Bool) : R2 := fun x y H Q => ∃ F a b, Same F H ∧ RpB K F H x a ∧ RpB K F H y b ∧ AnsT F H (f a b) (fun k H' => Q (.bl k) H') NoE
theorem AnsT.ok {b : Bool} {Q : Bool → Hp → Prop} (s : Same F H) (h : AnsT F H (.ok b) Q E) : Q b H := h F H (.refl s)
theorem Ans.here {d : D} {v : V} (s : Same F H) (h : Ans K F H (.ok d) Q E) (r : Rp K F v d) : Q v H := h v F H (.refl s) r
theorem AnsG.here {d : D} {v : V} (s : Same F H) (h : AnsG K F H (.ok d) Q E) (n : ∀ ds, d ≠ .list ds) (r : Rp K F v d) : Q v H := h.1 v F H n (.refl s) r
theorem AnsG.new {ds : List D} {vs : List V} {p : Addr} (s : Same F H) (h : AnsG K F H (.ok (.list ds)) Q E) (hp : H p = none) (r : RpAll K F vs ds) : Q (.ref p) (upd H p (.lst vs)) :=
  h.2 ds p vs F _ rfl hp upd_same (s.free hp) ((Ext.refl s).loose hp) r
theorem AnsG.newT {ds : List D} {vs : List V} {p : Addr} {ob : Obj} (hob : IsTO ob) (s : Same F H) (h : AnsG K F H (.ok (.tuple ds)) Q E) (hp : H p = none) (r : RpAll K F vs ds) : Q (.ref p) (upd H p (.frz ob (.tup vs))) :=
  h.1 (.ref p) (upd F p (.frz ob (.tup vs))) _ (fun _ e => nomatch e) ((Ext.refl s).frozen hp) (.tup (TpX.new hob) (r.mono (Fp.Same.upd (s.free hp))))
theorem Ans.newT {ds : List D} {vs : List V} {p : Addr} {ob : Obj} (hob : IsTO ob) (s : Same F H) (h : Ans K F H (.ok (.tuple ds)) Q E) (hp : H p = none) (r : RpAll K F vs ds) : Q (.ref p) (upd H p (.frz ob (.tup vs))) :=
  AnsG.newT hob s h.toG hp r
/-- a tuple's own object -/
abbrev tupO (its : List Value) : Obj := { cls := .type "tuple", data := .seq its.toArray }
theorem isTO (its : List Value) : IsTO (tupO its) := ⟨_, _, rfl⟩
/-- a new tuple stands behind all else -/
theorem lay_tup {X : Cx} {pins : List (Addr × Obj)} {σ : L2.St} {s : Shared} {h' : Heap} {t' : Nat} {xs : List V} {its : List Value} (I : L2.Inv X pins σ H s) (k : ∀ b o, s.heap.get? b = some o → h'.get? b = some o) (hz : xs.length ≤ sizeLine) (rv : Vals xs its) :
    H h'.objs.size = none ∧ L2.Inv X pins σ (upd H h'.objs.size (.frz (tupO its) (.tup xs))) { s with heap := h'.push (tupO its), toks := t' } := by
  have I1 : L2.Inv X pins σ H { s with heap := h', toks := t' } := I.kept k
  refine ⟨I1.hok.fresh (Nat.le_refl _), ?_⟩
  have hg : (h'.push (tupO its)).get? h'.objs.size = some (tupO its) := Heap.get?_push_size _ rfl
  have new : ObjOk X.prog X.w (upd H h'.objs.size (.frz (tupO its) (.tup xs))) (h'.push (tupO its)) h'.objs.size (.frz (tupO its) (.tup xs)) := ⟨hg, hz, its, rv, ⟨_, hg, rfl, _, rfl⟩⟩
  exact I1.laid (t' := t') (fun b o e => Heap.get?_push_of_some _ e) (Nat.le_refl _) new
end
section
variable {X : Cx}
theorem fine_plain {d : D} (h : fine d = true) : d.plain = true ∧ d.depth ≤ 60 := by
  unfold fine at h
  rw [Bool.and_eq_true, decide_eq_true_eq] at h
  exact h
/-- room for some seventy C frames -/
structure Rm (X : Cx) : Prop where
  room : X.A.units + 70 < cLine
theorem Rm.in1 {X : Cx} {n m : Nat} (h : Rm X) (hn : n ≤ 60) : X.A.units + 1 + min n m < cLine := by
  have h := h.room
  have := Nat.min_le_left n m
  omega
theorem Rm.in0 {X : Cx} {n m : Nat} (h : Rm X) (hn : n ≤ 60) : X.A.units + min n m < cLine := by
  have h := h.room
  have := Nat.min_le_left n m
  omega
theorem Rm.in0' {X : Cx} {n m : Nat} (h : Rm X) (hn : m ≤ 60) : X.A.units + min n m < cLine := by
  have h := h.room
  have := Nat.min_le_right n m
  omega
/-! ### comparisons -/
theorem opc_eq (hr : Rm X) : OpR X (compareOp .Eq) (rCmp2 X.K dEq) := by
  intro pins s σ H x y v u Q I rx ry ⟨F, a, b, hs, ha, hb, h⟩
  obtain ⟨as, ra⟩ := Dp.reads I a x v (ha.dp hs) rx
  obtain ⟨bs, rb⟩ := Dp.reads I b y u (hb.dp hs) ry
  unfold dEq at h
  by_cases hf : (fine a && fine b) = true
  · rw [if_pos hf] at h
    rw [Bool.and_eq_true] at hf
    exact SeqAt.eq_plain ra rb (fine_plain hf.1).1 (fine_plain hf.2).1 (hr.in0 (fine_plain hf.1).2) ⟨.bl _, H, I, rfl, h.ok hs⟩
  · rw [if_neg hf] at h; exact h.elim
theorem opc_ne (hr : Rm X) : OpR X (compareOp .NotEq) (rCmp2 X.K fun a b => (dEq a b).bind fun k => .ok (!k)) := by
  intro pins s σ H x y v u Q I rx ry ⟨F, a, b, hs, ha, hb, h⟩
  obtain ⟨as, ra⟩ := Dp.reads I a x v (ha.dp hs) rx
  obtain ⟨bs, rb⟩ := Dp.reads I b y u (hb.dp hs) ry
  have h : AnsT F H ((dEq a b).bind fun k => .ok (!k)) (fun k H' => Q (.bl k) H') NoE := h
  unfold dEq at h
  by_cases hf : (fine a && fine b) = true
  · rw [if_pos hf] at h
    rw [Bool.and_eq_true] at hf
    exact SeqAt.ne_plain ra rb (fine_plain hf.1).1 (fine_plain hf.2).1 (hr.in0 (fine_plain hf.1).2) ⟨.bl _, H, I, rfl, h.ok hs⟩
  · rw [if_neg hf] at h; exact h.elim
theorem cmp_facts {a b : D} (h : (PySem.W.alike a b && PySem.W.alike b a && !noneD a && !noneD b && decide (a.depth ≤ 60)) = true) :
    PySem.W.alike a b = true ∧ PySem.W.alike b a = true ∧ a ≠ .none ∧ b ≠ .none ∧ a.depth ≤ 60 := by
  simp only [Bool.and_eq_true, decide_eq_true_eq, Bool.not_eq_true'] at h
  obtain ⟨⟨⟨⟨h1, h2⟩, h3⟩, h4⟩, h5⟩ := h
  refine ⟨h1, h2, fun e => ?_, fun e => ?_, h5⟩
  · rw [e] at h3; cases h3
  · rw [e] at h4; cases h4
theorem opc_lt (hr : Rm X) : OpR X (compareOp .Lt) (rCmp2 X.K dLt) := by
  intro pins s σ H x y v u Q I rx ry ⟨F, a, b, hs, ha, hb, h⟩
  obtain ⟨as, ra⟩ := Dp.reads I a x v (ha.dp hs) rx
  obtain ⟨bs, rb⟩ := Dp.reads I b y u (hb.dp hs) ry
  unfold dLt at h
  split at h
  · rename_i hf
    obtain ⟨f1, f2, f3, f4, f5⟩ := cmp_facts hf
    exact PySem.W.lt_data ra rb f1 f3 (hr.in0 f5) ⟨.bl _, H, I, rfl, h.ok hs⟩
  · exact h.elim
theorem opc_le (hr : Rm X) : OpR X (compareOp .LtE) (rCmp2 X.K dLe) := by
  intro pins s σ H x y v u Q I rx ry ⟨F, a, b, hs, ha, hb, h⟩
  obtain ⟨as, ra⟩ := Dp.reads I a x v (ha.dp hs) rx
  obtain ⟨bs, rb⟩ := Dp.reads I b y u (hb.dp hs) ry
  unfold dLe at h
  split at h
  · rename_i hf
    obtain ⟨f1, f2, f3, f4, f5⟩ := cmp_facts hf
    exact PySem.W.le_data ra rb f1 f3 (hr.in0 f5) ⟨.bl _, H, I, rfl, h.ok hs⟩
  · exact h.elim
theorem opc_gt (hr : Rm X) : OpR X (compareOp .Gt) (rCmp2 X.K fun a b => dLt b a) := by
  intro pins s σ H x y v u Q I rx ry ⟨F, a, b, hs, ha, hb, h⟩
  obtain ⟨as, ra⟩ := Dp.reads I a x v (ha.dp hs) rx
  obtain ⟨bs, rb⟩ := Dp.reads I b y u (hb.dp hs) ry
  have h : AnsT F H (dLt b a) (fun k H' => Q (.bl k) H') NoE := h
  unfold dLt at h
  split at h
  · rename_i hf
    obtain ⟨f1, f2, f3, f4, f5⟩ := cmp_facts hf
    exact PySem.W.gt_data ra rb f2 f4 (hr.in0' f5) ⟨.bl _, H, I, rfl, h.ok hs⟩
  · exact h.elim
theorem opc_ge (hr : Rm X) : OpR X (compareOp .GtE) (rCmp2 X.K fun a b => dLe b a) := by
  intro pins s σ H x y v u Q I rx ry ⟨F, a, b, hs, ha, hb, h⟩
  obtain ⟨as, ra⟩ := Dp.reads I a x v (ha.dp hs) rx
  obtain ⟨bs, rb⟩ := Dp.reads I b y u (hb.dp hs) ry
  have h : AnsT F H (dLe b a) (fun k H' => Q (.bl k) H') NoE := h
  unfold dLe at h
  split at h
  · rename_i hf
    obtain ⟨f1, f2, f3, f4, f5⟩ := cmp_facts hf
    exact PySem.W.ge_data ra rb f2 f4 (hr.in0' f5) ⟨.bl _, H, I, rfl, h.ok hs⟩
  · exact h.elim
theorem fine_list {ds : List D} (h : fine (.list ds) = true) : PyData.plainAll ds = true ∧ PyData.depthAll ds ≤ 60 := by
  obtain ⟨h1, h2⟩ := fine_plain h
  refine ⟨by simpa only [PyData.plain] using h1, ?_⟩
  simp only [PyData.depth] at h2
  omega
theorem fine_tuple {ds : List D} (h : fine (.tuple ds) = true) : PyData.plainAll ds = true ∧ PyData.depthAll ds ≤ 60 := by
  obtain ⟨h1, h2⟩ := fine_plain h
  refine ⟨by simpa only [PyData.plain] using h1, ?_⟩
  simp only [PyData.depth] at h2
  omega
theorem opc_in (hr : Rm X) (n : Bool) : OpR X (compareOp (if n = true then .NotIn else .In)) (rCmp2 X.K fun a b => (dIn a b).bind fun k => .ok (n != k)) := by
  intro pins s σ H x y v u Q I rx ry ⟨F, a, b, hs, ha, hb, h⟩
  obtain ⟨as, ra⟩ := Dp.reads I a x v (ha.dp hs) rx
  have h : AnsT F H ((dIn a b).bind fun k => .ok (n != k)) (fun k H' => Q (.bl k) H') NoE := h
  cases b with
  | list ds =>
    obtain ⟨bs, rb⟩ := Dp.reads I (.list ds) y u (hb.dp hs) ry
    simp only [dIn] at h
    by_cases hf : (fine a && fine (.list ds)) = true
    · rw [if_pos hf] at h
      rw [Bool.and_eq_true] at hf
      have q := h.ok hs
      cases n with
      | false => exact SeqAt.in_list_data rb ra (fine_list hf.2).1 (fine_plain hf.1).1 (hr.in1 (fine_list hf.2).2) ⟨.bl _, H, I, rfl, by simpa using q⟩
      | true => exact SeqAt.notIn_list_data rb ra (fine_list hf.2).1 (fine_plain hf.1).1 (hr.in1 (fine_list hf.2).2) ⟨.bl _, H, I, rfl, by simpa using q⟩
    · rw [if_neg hf] at h; exact h.elim
  | tuple ds =>
    obtain ⟨bs, rb⟩ := Dp.reads I (.tuple ds) y u (hb.dp hs) ry
    simp only [dIn] at h
    by_cases hf : (fine a && fine (.tuple ds)) = true
    · rw [if_pos hf] at h
      rw [Bool.and_eq_true] at hf
      have q := h.ok hs
      cases n with
      | false => exact SeqAt.in_tuple_data rb ra (fine_tuple hf.2).1 (fine_plain hf.1).1 (hr.in1 (fine_tuple hf.2).2) ⟨.bl _, H, I, rfl, by simpa using q⟩
      | true => exact SeqAt.notIn_tuple_data rb ra (fine_tuple hf.2).1 (fine_plain hf.1).1 (hr.in1 (fine_tuple hf.2).2) ⟨.bl _, H, I, rfl, by simpa using q⟩
    · rw [if_neg hf] at h; exact h.elim
  | str z =>
    cases a with
    | str c =>
      simp only [dIn] at h
      split at h
      · rename_i k hk
        have hc : c = ⟨#[k]⟩ := by
          obtain ⟨l⟩ := c
          congr 1
          exact Array.ext' (by simpa using hk)
        subst hc
        have q := h.ok hs
        cases ha.str
        cases hb.str
        cases n with
        | false => exact op_in_sign pins s σ H _ _ v u Q I rx ry ⟨k, z, rfl, rfl, by simpa using q⟩
        | true => exact op_notIn_sign pins s σ H _ _ v u Q I rx ry ⟨k, z, rfl, rfl, by simpa using q⟩
      · exact h.elim
    | _ => exact h.elim
  | _ => exact h.elim
end
end Fp

set_option Elab.async false
set_option linter.all false
set_option maxRecDepth 100000
set_option maxHeartbeats 1000000
/-! Operators, subscripts, slices, built-in calls, by data. -/
namespace Fp
open PySem PySem.Spec PyProof.Rows L2
section
variable {X : Cx} {pins : List (Addr × Obj)} {s : Shared} {σ : L2.St} {H : Hp} {Q : VK} {a b : Addr} {xs ys : List V} {v u : Value}
theorem catX (I : L2.Inv X pins σ H s) (rx : RelV (.ref a) v) (ry : RelV (.ref b) u) (ha : SqT X.K H a xs) (hb : SqT X.K H b ys) (hz : xs.length + ys.length ≤ sizeLine) (q0 : xs = [] → Q (.ref b) H) (q1 : ys = [] → Q (.ref a) H)
    (q2 : ∀ (p : Addr) (ob : Obj), IsTO ob → H p = none → Q (.ref p) (upd H p (.frz ob (.tup (xs ++ ys))))) : wpAny (model X.prog X.w) X.A (binaryOp .Add v u) (EP X pins σ Q) X.xe s := by
  cases rx
  cases ry
  obtain ⟨its, r1, p1, _⟩ := I.tuple ha
  obtain ⟨jts, r2, p2, _⟩ := I.tuple hb
  by_cases hx : xs = []
  · subst hx
    cases r1
    exact cat_tup0 p1 p2 ⟨.ref b, H, I, rfl, q0 rfl⟩
  · have hi : its ≠ [] := fun z => hx (r1.nil_iff.mp z)
    have hl : its.length + jts.length ≤ sizeLine := by rw [← r1.length, ← r2.length]; exact hz
    refine HT.cat_tup p1 p2 hi (fun z => ⟨.ref a, H, I, rfl, q1 (r2.nil_iff.mp z)⟩) (fun z => ?_) hl
    obtain ⟨n1, I2⟩ := lay_tup (t' := s.toks) I (fun _ _ e => e) (by rw [List.length_append]; exact hz) (r1.append r2)
    exact ⟨.ref s.heap.objs.size, _, I2, rfl, q2 _ _ (isTO _) n1⟩
theorem cutX {vl vu : Value} {lo hi : Option Int} {sl : Addr} (I : L2.Inv X pins σ H s) (rx : RelV (.ref a) v) (hs : s.heap.IsSliceOf sl vl vu .none) (pl : IsPart vl lo) (pu : IsPart vu hi) (ha : SqT X.K H a xs)
    (q1 : HT.sIx xs.length 0 lo = 0 ∧ HT.sIx xs.length xs.length hi = xs.length → Q (.ref a) H)
    (q2 : ∀ (p : Addr) (ob : Obj), IsTO ob → H p = none → Q (.ref p) (upd H p (.frz ob (.tup (cutV xs lo hi))))) :
    ∃ T id, typeLookup (.type T) "__getitem__" = pure (some (.builtin id)) ∧ s.TypeIs v T ∧ wpAny (model X.prog X.w) X.A (getItem v (.ref sl)) (EP X pins σ Q) X.xe s := by
  cases rx
  obtain ⟨its, r, ht, hz⟩ := I.tuple ha
  have e0 : its.toArray.size = xs.length := List.size_toArray.trans r.length.symm
  refine ⟨"tuple", _, PyProof.Rows.slot_tuple_getitem.lookup, ht.typeIs, ?_⟩
  by_cases hw : HT.sIx xs.length 0 lo = 0 ∧ HT.sIx xs.length xs.length hi = xs.length
  · exact getItem_tuple_whole ht hs pl pu (by rw [e0]; exact hw) ⟨.ref a, H, I, rfl, q1 hw⟩
  · refine HT.getItem_tuple_cut ht hs pl pu (by rw [e0]; exact hw) ?_ (by rw [e0]; exact hz)
    rw [e0]
    obtain ⟨n1, I2⟩ := lay_tup (t' := s.toks) I (fun _ _ e => e) (Nat.le_trans (cutV_length xs lo hi) hz) ((r.drop (HT.sIx xs.length 0 lo)).take (HT.sIx xs.length xs.length hi - HT.sIx xs.length 0 lo))
    exact ⟨.ref s.heap.objs.size, _, I2, rfl, q2 _ _ (isTO _) n1⟩
theorem repX {k : Int} (I : L2.Inv X pins σ H s) (rx : RelV (.ref a) v) (ry : RelV (.int k) u) (ha : SqT X.K H a xs) (hne : xs ≠ []) (h1 : 2 ≤ k) (h2 : k ≤ 1000) (hz : xs.length ≤ 1000)
    (q2 : ∀ (p : Addr) (ob : Obj), IsTO ob → H p = none → Q (.ref p) (upd H p (.frz ob (.tup (List.replicate k.toNat xs).flatten)))) : wpAny (model X.prog X.w) X.A (binaryOp .Mult v u) (EP X pins σ Q) X.xe s := by
  cases rx
  obtain ⟨t, rfl⟩ := ry
  obtain ⟨its, r, ⟨⟨cls, dd, dat, sls⟩, ho, hc, n, hd⟩, _⟩ := I.tuple ha
  obtain rfl : cls = .type "tuple" := hc
  obtain rfl : dat = .seq its.toArray n := hd
  have e0 : its.toArray.size = xs.length := List.size_toArray.trans r.length.symm
  have hpos : 0 < its.length := by
    rw [← r.length]
    exact List.length_pos_iff.mpr hne
  have hE : its.toArray.isEmpty = false := by
    cases its with
    | nil => exact absurd hpos (Nat.lt_irrefl _)
    | cons _ _ => rfl
  have hm : ((its.toArray.size : Nat) : Int) * k ≤ 1000000 := by
    have a1 : ((xs.length : Nat) : Int) * k ≤ 1000 * k := Int.mul_le_mul_of_nonneg_right (by omega) (by omega)
    rw [e0]
    omega
  have hf : k.toNat * xs.length ≤ 1000000 := Nat.mul_le_mul (by omega : k.toNat ≤ 1000) hz
  have hfl : ∀ {α : Type} (l : List α), l.length = xs.length → (List.replicate k.toNat l).flatten.length ≤ sizeLine := fun l e => by
    rw [PyProof.Rows.lm_len_rep_flat, e, sizeLine_eq]
    omega
  have c0 : (decide (k < -(2 ^ 63)) || decide (k ≥ 2 ^ 63)) = false := by simp; omega
  have c1 : (its.toArray.isEmpty || k == 1) = false := by
    rw [hE, Bool.false_or, beq_eq_false_iff_ne]
    omega
  have c2 : (decide (k ≤ 0) || its.toArray.isEmpty) = false := by
    rw [hE, Bool.or_false, decide_eq_false_iff_not]
    omega
  have c4 : Builtin.Tuple.tupleTooMany (((its.toArray.size : Nat) : Int) * k) = false := by
    unfold Builtin.Tuple.tupleTooMany
    rw [sizeLine_eq, decide_eq_false_iff_not]
    omega
  have tt : s.TypeIs (.ref a) "tuple" := ⟨_, ho, rfl⟩
  have mul := tuple_mulW a its.toArray n dd sls k t c0 c1 c2 (by omega) c4 (by rw [size_rep, List.size_toArray]; exact hfl its r.length.symm)
  refine wpAny_binaryOp_repeat_ref (U := "int") (by decide) tt (fun s' => typeIs_int s' k t) noFill_tuple_mul F.fills_int_mul F.slot_int_rmul repeat_tuple F.slot_int_index.lookup ?_
  refine call_meets F.slot_int_rmul (typeIs_int s k t) F.entry_int_rmul (F.args_int_rmul_2 _ _) (int_rmul_tuple k t a its.toArray n dd sls) ⟨ho, rfl, tt, ?_⟩
  refine call_meets F.slot_tuple_mul tt F.entry_tuple_mul (F.args_tuple_mul_2 _ _) mul ⟨ho, ?_⟩
  rw [size_rep]
  obtain ⟨n1, I2⟩ := lay_tup (t' := s.toks) I (fun _ _ e => e) (hfl xs rfl) (r.rep k.toNat)
  exact ⟨.ref s.heap.objs.size, _, I2, rfl, q2 _ _ (isTO _) n1⟩
end
section
variable {X : Cx} {pins : List (Addr × Obj)} {σ : L2.St} {H : Hp} {s : Shared}
theorem sz_eq : (sizeLine : Nat) = 16777216 := sizeLine_eq
/-- a list that is read: its object -/
theorem rd_list {a : Addr} {xs : List V} (I : Inv X pins σ H s) (h : LsX X.K H a xs) : xs.length ≤ sizeLine ∧ ∃ (its : List Value) (n : Nat), Vals xs its ∧ xs.length = its.length ∧ s.heap.get? a = some { cls := .type "list", data := .seq its.toArray n } := by
  rcases h with h | ⟨its, n, h1, h2, h3⟩
  · obtain ⟨z, its, n, r, e⟩ := h.ok I.hok
    exact ⟨z, its, n, r, r.length, e⟩
  · exact ⟨h3, its, n, h2, h2.length, I.kIn _ _ h1⟩
theorem rd_len {K : PySem.W.Frag} {F : Hp} {vs : List V} {ds : List D} (r : RpAll K F vs ds) : vs.length = ds.length := r.length
/-! ### list + list, list * int, of lists that are read -/
def rCatR (K : PySem.W.Frag) : R2 := fun x y H Q => ∃ l b xs zs, x = .ref l ∧ y = .ref b ∧ LsX K H l xs ∧ LsX K H b zs ∧ xs.length + zs.length ≤ sizeLine ∧ ∀ p, H p = none → Q (.ref p) (upd H p (.lst (xs ++ zs)))
theorem op_catR : OpR X (binaryOp .Add) (rCatR X.K) := by
  intro pins s σ H x y v u Q I rx ry h
  obtain ⟨l, b, xs, zs, rfl, rfl, hH, hB, hz, q⟩ := h
  cases rx
  cases ry
  obtain ⟨z, its, n, r, hl, e⟩ := rd_list I hH
  obtain ⟨z2, its2, n2, r2, hl2, e2⟩ := rd_list I hB
  refine PySem.P.add_list e e2 ?_ (by rw [List.size_toArray, List.size_toArray]; omega)
  have ea : its.toArray ++ its2.toArray = (its ++ its2).toArray := by simp
  rw [ea]
  exact ⟨.ref _, _, I.lnew (t' := s.toks) (r.append r2) (by rw [List.length_append]; omega), rfl, q _ I.fresh⟩
def rRepR (K : PySem.W.Frag) : R2 := fun x y H Q => ∃ l k xs, x = .ref l ∧ y = .int k ∧ LsX K H l xs ∧ -(2 ^ 63) ≤ k ∧ k < 2 ^ 63 ∧ xs.length * k.toNat ≤ sizeLine ∧
  ∀ p, H p = none → Q (.ref p) (upd H p (.lst (List.replicate k.toNat xs).flatten))
theorem op_repR : OpR X (binaryOp .Mult) (rRepR X.K) := by
  intro pins s σ H x y v u Q I rx ry h
  obtain ⟨l, k, xs, rfl, rfl, hH, h1, h2, hz, q⟩ := h
  cases rx
  obtain ⟨t, rfl⟩ := ry
  obtain ⟨z, its, n, r, hl, e⟩ := rd_list I hH
  have hlen : its.toArray.size * k.toNat ≤ sizeLine := by rw [List.size_toArray, ← hl]; exact hz
  have hcap : ¬ its.toArray.size * k.toNat > (2 ^ 63 - 1) / 8 := by
    have : (sizeLine : Nat) ≤ (2 ^ 63 - 1) / 8 := by decide
    omega
  have hfit : ¬ (!Builtin.List.listFitsIndex k) = true := by
    rw [fitsIndex_both h1 h2]
    exact Bool.false_ne_true
  have hlong : ¬ Builtin.List.listTooLong (its.toArray.size * k.toNat) = true := by
    rw [notLongL hlen]
    exact Bool.false_ne_true
  have hnew : List.foldl (fun x1 x2 => x1 ++ x2) #[] (List.replicate (if its.toArray.isEmpty = true then 0 else k.toNat) its.toArray) = (List.replicate k.toNat its).flatten.toArray := by
    have f0 : ∀ m : Nat, List.foldl (fun x1 x2 => x1 ++ x2) #[] (List.replicate m its.toArray) = (List.replicate m its).flatten.toArray := fun m => by
      have := foldl_rep its m []
      rw [List.nil_append] at this
      exact this
    rw [f0]
    cases its with
    | nil => simp
    | cons a r' => rw [if_neg (by simp)]
  refine wpAny_binaryOp_repeat_ref (T := "list") (U := "int") (by decide) ⟨_, e, rfl⟩ (fun s' => typeIs_int s' k t) noFill_list_mul F.fills_int_mul F.slot_int_rmul repeat_list F.slot_int_index.lookup
    (call_meets F.slot_int_rmul (typeIs_int s k t) F.entry_int_rmul (F.args_int_rmul_2 _ _) (int___rmul___int_list k t l its.toArray n)
      ⟨e, rfl, ⟨_, e, rfl⟩, call_meets F.slot_list_mul ⟨_, e, rfl⟩ F.entry_list_mul (F.args_list_mul_2 _ _) (AutoListH.list___mul___list_int_3 l its.toArray n k t hfit hcap hlong) ⟨e, ?_⟩⟩)
  rw [hnew]
  exact ⟨.ref _, _, I.lnew (t' := s.toks) (r.rep k.toNat) (by rw [PyProof.Rows.lm_len_rep_flat, Nat.mul_comm]; exact hz), rfl, q _ I.fresh⟩
/-! ### the operators -/
theorem opd_add : OpR X (binaryOp .Add) (rOp2G X.K dAdd) := by
  intro pins s σ H x y v u Q I rx ry ⟨F, a, b, hs, ha, hb, h⟩
  cases a with
  | int i =>
    cases b with
    | int j =>
      cases ha.int; cases hb.int
      exact op_add pins s σ H _ _ v u Q I rx ry ⟨i, j, rfl, rfl, h.here hs (fun _ e => nomatch e) (.int _)⟩
    | _ => exact h.elim
  | str i =>
    cases b with
    | str j =>
      cases ha.str; cases hb.str
      simp only [dAdd] at h
      split at h
      · rename_i hz
        exact op_add_str pins s σ H _ _ v u Q I rx ry ⟨i, j, rfl, rfl, by rw [sz_eq]; exact hz, h.here hs (fun _ e => nomatch e) (.str _)⟩
      · exact h.elim
    | _ => exact h.elim
  | list ds =>
    cases b with
    | list es =>
      obtain ⟨p, vs, rfl, h1, r1⟩ := ha.list hs
      obtain ⟨q, ws, rfl, h2, r2⟩ := hb.list hs
      simp only [dAdd] at h
      split at h
      · rename_i hz
        exact op_catR pins s σ H _ _ v u Q I rx ry ⟨p, q, vs, ws, rfl, rfl, h1, h2, by rw [sz_eq, r1.length, r2.length]; exact hz, fun l hl => h.new hs hl (r1.append r2)⟩
      · exact h.elim
    | _ => exact h.elim
  | tuple ds =>
    cases b with
    | tuple es =>
      obtain ⟨p, vs, rfl, h1, r1⟩ := ha.tuple hs
      obtain ⟨q, ws, rfl, h2, r2⟩ := hb.tuple hs
      simp only [dAdd] at h
      split at h
      · rename_i hz
        have fa : Rp X.K F (.ref p) (.tuple ds) := by
          rcases ha with h | ⟨_, _, _, _, e, _⟩
          · exact h
          · cases e
        have fb : Rp X.K F (.ref q) (.tuple es) := by
          rcases hb with h | ⟨_, _, _, _, e, _⟩
          · exact h
          · cases e
        refine catX I rx ry h1 h2 (by rw [sz_eq, r1.length, r2.length]; exact hz) (fun e => ?_) (fun e => ?_) fun l ob hd hl => h.newT hd hs hl (r1.append r2)
        · have : ds = [] := by
            have := r1.length
            rw [e] at this
            exact List.eq_nil_of_length_eq_zero this.symm
          subst this
          exact h.here hs (fun _ e => nomatch e) fb
        · have : es = [] := by
            have := r2.length
            rw [e] at this
            exact List.eq_nil_of_length_eq_zero this.symm
          subst this
          rw [List.append_nil] at h
          exact h.here hs (fun _ e => nomatch e) fa
      · exact h.elim
    | _ => exact h.elim
  | _ => exact h.elim
theorem opd_mul : OpR X (binaryOp .Mult) (rOp2G X.K dMul) := by
  intro pins s σ H x y v u Q I rx ry ⟨F, a, b, hs, ha, hb, h⟩
  cases a with
  | int i =>
    cases b with
    | int j =>
      cases ha.int; cases hb.int
      simp only [dMul] at h
      split at h
      · rename_i hz
        simp only [Bool.or_eq_true, Bool.and_eq_true, decide_eq_true_eq] at hz
        exact op_mul pins s σ H _ _ v u Q I rx ry ⟨i, j, rfl, rfl, hz, h.here hs (fun _ e => nomatch e) (.int _)⟩
      · exact h.elim
    | _ => exact h.elim
  | list ds =>
    cases b with
    | int j =>
      obtain ⟨p, vs, rfl, h1, r1⟩ := ha.list hs
      cases hb.int
      simp only [dMul] at h
      split at h
      · rename_i hz
        simp only [Bool.and_eq_true, decide_eq_true_eq] at hz
        obtain ⟨⟨z1, z2⟩, z3⟩ := hz
        exact op_repR pins s σ H _ _ v u Q I rx ry ⟨p, j, vs, rfl, rfl, h1, by omega, by omega, by rw [sz_eq, r1.length]; exact z3, fun l hl => h.new hs hl (r1.rep _)⟩
      · exact h.elim
    | _ => exact h.elim
  | tuple ds =>
    cases b with
    | int j =>
      obtain ⟨p, vs, rfl, h1, r1⟩ := ha.tuple hs
      cases hb.int
      simp only [dMul] at h
      split at h
      · rename_i hz
        simp only [Bool.and_eq_true, decide_eq_true_eq, Bool.not_eq_true'] at hz
        obtain ⟨⟨⟨z1, z2⟩, z3⟩, z4⟩ := hz
        have hne : vs ≠ [] := fun e => by
          have := r1.length
          rw [e] at this
          rw [List.eq_nil_of_length_eq_zero this.symm] at z4
          cases z4
        exact repX I rx ry h1 hne z1 z2 (by rw [r1.length]; exact z3) fun l ob hd hl => h.newT hd hs hl (r1.rep _)
      · exact h.elim
    | _ => exact h.elim
  | _ => exact h.elim
theorem intOp {f : Value → Value → Sem Value} {C : Int → Int → Prop} {g : Int → Int → Int} {t : D → D → R D} (ho : OpR X f (rI C fun i j => .int (g i j)))
    (hi : ∀ i j x, t (.int i) (.int j) = x → x = .no ∨ (C i j ∧ x = .ok (.int (g i j)))) (hn : ∀ a b, (∀ i, a ≠ .int i) ∨ (∀ j, b ≠ .int j) → t a b = .no) : OpR X f (rOp2G X.K t) := by
  intro pins s σ H x y v u Q I rx ry ⟨F, a, b, hs, ha, hb, h⟩
  by_cases h1 : ∃ i, a = .int i
  · obtain ⟨i, rfl⟩ := h1
    by_cases h2 : ∃ j, b = .int j
    · obtain ⟨j, rfl⟩ := h2
      cases ha.int; cases hb.int
      rcases hi i j _ rfl with e | ⟨hc, e⟩
      · rw [e] at h; exact h.elim
      · rw [e] at h
        exact ho pins s σ H _ _ v u Q I rx ry ⟨i, j, rfl, rfl, hc, h.here hs (fun _ e => nomatch e) (.int _)⟩
    · rw [hn _ _ (.inr fun j e => h2 ⟨j, e⟩)] at h; exact h.elim
  · rw [hn _ _ (.inl fun i e => h1 ⟨i, e⟩)] at h; exact h.elim
theorem dbin_none {o : Bop} (ho : o = .sub ∨ o = .fdiv ∨ o = .mod ∨ o = .pow) (a b : D) (h : (∀ i, a ≠ .int i) ∨ (∀ j, b ≠ .int j)) : dBin o a b = .no := by
  rcases ho with rfl | rfl | rfl | rfl <;> rcases h with h | h <;> cases a <;> cases b <;> first
    | rfl
    | exact absurd rfl (h _)
theorem opd_sub : OpR X (binaryOp .Sub) (rOp2G X.K (dBin .sub)) := intOp (C := fun _ _ => True) (g := fun i j => i - j) (fun pins s σ H x y v u Q I rx ry ⟨i, j, e1, e2, _, q⟩ => op_sub pins s σ H x y v u Q I rx ry ⟨i, j, e1, e2, q⟩)
  (fun i j x e => .inr ⟨trivial, e.symm⟩) (dbin_none (.inl rfl))
theorem opd_fdiv : OpR X (binaryOp .FloorDiv) (rOp2G X.K (dBin .fdiv)) := intOp (C := CDivW) (g := fun i j => i / j) op_fdivW
  (fun i j x e => by
    simp only [dBin] at e
    split at e
    · rename_i hz
      simp only [Bool.and_eq_true, decide_eq_true_eq] at hz
      exact .inr ⟨hz, e.symm⟩
    · exact .inl e.symm) (dbin_none (.inr (.inl rfl)))
theorem opd_mod : OpR X (binaryOp .Mod) (rOp2G X.K (dBin .mod)) := intOp (C := fun _ j => 0 < j) (g := fun i j => i % j) op_mod
  (fun i j x e => by
    simp only [dBin] at e
    split at e
    · rename_i hz
      exact .inr ⟨hz, e.symm⟩
    · exact .inl e.symm) (dbin_none (.inr (.inr (.inl rfl))))
theorem opd_pow : OpR X (binaryOp .Pow) (rOp2G X.K (dBin .pow)) := intOp (C := CPow) (g := fun i j => i ^ j.toNat) op_pow
  (fun i j x e => by
    simp only [dBin] at e
    split at e
    · rename_i hz
      simp only [Bool.and_eq_true, decide_eq_true_eq] at hz
      exact .inr ⟨⟨hz.1.1, hz.1.2, hz.2⟩, e.symm⟩
    · exact .inl e.symm) (dbin_none (.inr (.inr (.inr rfl))))
theorem opd {o : Bop} {op : Operator} (h : bopIs o op = true) : OpR X (binaryOp op) (rOp2G X.K (dBin o)) := by
  cases o <;> cases op <;> first
    | exact absurd h (by decide)
    | exact opd_add
    | exact opd_sub
    | exact opd_mul
    | exact opd_fdiv
    | exact opd_mod
    | exact opd_pow
theorem opc {o : Cop} {op : CmpOp} (hr : Rm X) (h : copIs o op = true) : OpR X (compareOp op) (rCmp2 X.K (dCmp o)) := by
  cases o <;> cases op <;> first
    | exact absurd h (by decide)
    | exact opc_eq hr
    | exact opc_ne hr
    | exact opc_lt hr
    | exact opc_gt hr
    | exact opc_le hr
    | exact opc_ge hr
    | skip
  · intro pins s σ H x y v u Q I rx ry ⟨F, a, b, hs, ha, hb, h⟩
    refine opc_in hr false pins s σ H x y v u Q I rx ry ⟨F, a, b, hs, ha, hb, ?_⟩
    have e : ((dIn a b).bind fun k => R.ok (false != k)) = dIn a b := by cases dIn a b <;> simp [R.bind]
    show AnsT F H ((dIn a b).bind fun k => R.ok (false != k)) _ _
    rw [e]
    exact h
  · intro pins s σ H x y v u Q I rx ry ⟨F, a, b, hs, ha, hb, h⟩
    refine opc_in hr true pins s σ H x y v u Q I rx ry ⟨F, a, b, hs, ha, hb, ?_⟩
    have e : ((dIn a b).bind fun k => R.ok (true != k)) = (dIn a b).bind fun k => R.ok (!k) := by cases dIn a b <;> simp [R.bind]
    show AnsT F H ((dIn a b).bind fun k => R.ok (true != k)) _ _
    rw [e]
    exact h
/-! ### subscripts, slices -/
theorem ofO_ok {α : Type} {o : Option α} {a : α} (h : o = some a) : ofO o = .ok a := by rw [h]; rfl
theorem atI_rp {K : PySem.W.Frag} {F : Hp} {vs : List V} {ds : List D} {i : Int} {d : D} (r : RpAll K F vs ds) (h : atI ds i = some d) : ∃ v, atI vs i = some v ∧ Rp K F v d := by
  unfold atI at h ⊢
  rw [r.length]
  cases e : ixN ds.length i with
  | none => rw [e] at h; cases h
  | some j =>
    rw [e] at h
    obtain ⟨v, h1, h2⟩ := r.get (show ds[j]? = some d from h)
    exact ⟨v, h1, h2⟩
theorem ixd : IxR X (rOp2 X.K dIdx) := by
  intro value slice pins s σ H x y v u Q I rx ry ⟨F, a, b, hs, ha, hb, h⟩ hsub
  cases a with
  | list ds =>
    cases b with
    | int i =>
      obtain ⟨p, vs, rfl, h1, r1⟩ := ha.list hs
      cases hb.int
      have h : Ans X.K F H (ofO (atI ds i)) Q NoE := h
      cases e : atI ds i with
      | none => rw [e] at h; exact h.elim
      | some d =>
        rw [e] at h
        obtain ⟨w, e1, r⟩ := atI_rp r1 e
        exact ix_list value slice pins s σ H _ _ v u Q I rx ry ⟨p, vs, i, w, rfl, rfl, h1.sq, e1, Ans.here hs h r⟩ hsub
    | _ => exact h.elim
  | tuple ds =>
    cases b with
    | int i =>
      obtain ⟨p, vs, rfl, h1, r1⟩ := ha.tuple hs
      cases hb.int
      have h : Ans X.K F H (ofO (atI ds i)) Q NoE := h
      cases e : atI ds i with
      | none => rw [e] at h; exact h.elim
      | some d =>
        rw [e] at h
        obtain ⟨w, e1, r⟩ := atI_rp r1 e
        exact ix_tup value slice pins s σ H _ _ v u Q I rx ry ⟨p, vs, i, w, rfl, rfl, h1, e1, Ans.here hs h r⟩ hsub
    | _ => exact h.elim
  | str z =>
    cases b with
    | int i =>
      cases ha.str; cases hb.int
      simp only [dIdx] at h
      split at h
      · rename_i hz
        cases e : atI z.cps.toList i with
        | none => rw [e] at h; exact h.elim
        | some c =>
          rw [e] at h
          exact ix_str value slice pins s σ H _ _ v u Q I rx ry ⟨z, i, c, rfl, rfl, by rw [sz_eq]; exact of_decide_eq_true hz, e, Ans.here hs h (.str _)⟩ hsub
      · exact h.elim
    | _ => exact h.elim
  | _ => exact h.elim
theorem cut_rp {K : PySem.W.Frag} {F : Hp} {vs : List V} {ds : List D} (lo hi : Option Int) (r : RpAll K F vs ds) : RpAll K F (cutV vs lo hi) (cutD ds lo hi) := by
  unfold cutV cutD
  rw [r.length]
  exact (r.drop _).take _
theorem cutD_whole {ds : List D} {lo hi : Option Int} (h : HT.sIx ds.length 0 lo = 0 ∧ HT.sIx ds.length ds.length hi = ds.length) : cutD ds lo hi = ds := by
  unfold cutD
  rw [h.1, h.2, List.drop_zero, Nat.sub_zero, List.take_length]
def rSlD (K : PySem.W.Frag) : V → Option Int → Option Int → Hp → VK → Prop := fun x lo hi H Q => ∃ F a, Same F H ∧ RpB K F H x a ∧ AnsG K F H (dSli a lo hi) Q NoE
theorem sld : SlR X (rSlD X.K) := by
  intro pins s σ H x v vl vu lo hi sl Q I rx hsl pl pu ⟨F, a, hs, ha, h⟩
  cases a with
  | list ds =>
    obtain ⟨p, vs, rfl, h1, r1⟩ := ha.list hs
    exact sl_list pins s σ H _ v vl vu lo hi sl Q I rx hsl pl pu ⟨p, vs, rfl, h1.sq, fun l hl => AnsG.new hs h hl (cut_rp lo hi r1)⟩
  | tuple ds =>
    obtain ⟨p, vs, rfl, h1, r1⟩ := ha.tuple hs
    have fa : Rp X.K F (.ref p) (.tuple ds) := by
      rcases ha with h | ⟨_, _, _, _, e, _⟩
      · exact h
      · cases e
    refine cutX I rx hsl pl pu h1 (fun hw => ?_) fun l ob hd hl => AnsG.newT hd hs h hl (cut_rp lo hi r1)
    rw [r1.length] at hw
    have h : AnsG X.K F H (.ok (.tuple (cutD ds lo hi))) Q NoE := h
    rw [cutD_whole hw] at h
    exact h.here hs (fun _ e => nomatch e) fa
  | _ => exact h.elim
end
end Fp

set_option Elab.async false
set_option linter.all false
set_option maxRecDepth 100000
set_option maxHeartbeats 1000000
/-! Built-in calls and methods, by data. -/
namespace Fp
open PySem PySem.Spec PyProof.Rows L2
/-- what a built-in's answer asks: the least of a list is no new object -/
def AnsX (b : Blt) (K : PySem.W.Frag) (F H : Hp) (x : R D) (Q : VK) (E : Str → Hp → Prop) : Prop := match b with
  | .min1 => Ans K F H x Q E
  | _ => AnsG K F H x Q E
def rBl (K : PySem.W.Frag) (b : Blt) : List V → Hp → VK → Prop := fun xs H Q => ∃ F ds, Same F H ∧ RpBs K F H xs ds ∧ AnsX b K F H (dBlt b ds) Q NoE
def bltV : Blt → Value
  | .len => .builtin "len"
  | .all => .builtin "all"
  | .any => .builtin "any"
  | .sum => .builtin "sum"
  | .list => .type "list"
  | .tuple => .type "tuple"
  | .sorted => .builtin "sorted"
  | .min1 => .builtin "min"
  | .max2 => .builtin "max"
  | .min2 => .builtin "min"
section
variable {K : PySem.W.Frag} {F H : Hp}
theorem bools_of : ∀ {vs : List V} {ds : List D} {bs : List Bool}, RpAll K F vs ds → boolsD ds = .ok bs → vs = bs.map V.bl
  | _, _, bs, .nil, e => by
    cases e; rfl
  | _, _, bs, .cons (d := d) h t, e => by
    cases d with
    | bool b =>
      simp only [boolsD] at e
      cases q : boolsD _ with
      | ok cs =>
        rw [q] at e
        cases e
        cases h
        rw [List.map_cons, bools_of t q]
      | ex c => rw [q] at e; cases e
      | no => rw [q] at e; cases e
    | _ => cases e
theorem ints_of : ∀ {vs : List V} {ds : List D} {bs : List Int}, RpAll K F vs ds → intsD ds = .ok bs → vs = bs.map V.int
  | _, _, bs, .nil, e => by
    cases e; rfl
  | _, _, bs, .cons (d := d) h t, e => by
    cases d with
    | int b =>
      simp only [intsD] at e
      cases q : intsD _ with
      | ok cs =>
        rw [q] at e
        cases e
        cases h
        rw [List.map_cons, ints_of t q]
      | ex c => rw [q] at e; cases e
      | no => rw [q] at e; cases e
    | _ => cases e
theorem boolsD_ex : ∀ (ds : List D) (c : Str), boolsD ds ≠ .ex c
  | [], _, e => by cases e
  | d :: r, c, e => by
    cases d with
    | bool b =>
      simp only [boolsD] at e
      cases q : boolsD r with
      | ok cs => rw [q] at e; cases e
      | ex c' => exact boolsD_ex r c' q
      | no => rw [q] at e; cases e
    | _ => cases e
theorem intsD_ex : ∀ (ds : List D) (c : Str), intsD ds ≠ .ex c
  | [], _, e => by cases e
  | d :: r, c, e => by
    cases d with
    | int b =>
      simp only [intsD] at e
      cases q : intsD r with
      | ok cs => rw [q] at e; cases e
      | ex c' => exact intsD_ex r c' q
      | no => rw [q] at e; cases e
    | _ => cases e
theorem each_of : ∀ {vs : List V} {its : List Value} {ds : List D}, Vals vs its → RpAll K F vs ds → PySem.W.EachIs (fun v d => ∃ w, RelV w v ∧ Rp K F w d) its ds
  | _, _, _, .nil, .nil => .nil
  | _, _, _, .cons r t, .cons h q => .cons ⟨_, r, h⟩ (each_of t q)
theorem of_each : ∀ {its : List Value} {ds : List D}, PySem.W.EachIs (fun v d => ∃ w, RelV w v ∧ Rp K F w d) its ds → ∃ ws, Vals ws its ∧ RpAll K F ws ds
  | _, _, .nil => ⟨[], .nil, .nil⟩
  | _, _, .cons ⟨w, r, h⟩ t => by
    obtain ⟨ws, h1, h2⟩ := of_each t
    exact ⟨w :: ws, .cons r h1, .cons h h2⟩
theorem depth_mem : ∀ {ds : List D} {d : D}, d ∈ ds → d.depth ≤ PyData.depthAll ds
  | e :: r, d, h => by
    simp only [PyData.depthAll]
    rcases List.mem_cons.mp h with rfl | h
    · exact Nat.le_max_left _ _
    · exact Nat.le_trans (depth_mem h) (Nat.le_max_right _ _)
theorem alike_of {ds : List D} (h : allAlike ds = true) : PySem.W.AllAlike ds := fun d hd d' hd' => by
  unfold allAlike at h
  exact List.all_eq_true.mp (List.all_eq_true.mp h d hd) d' hd'
theorem sortable_of {ds : List D} (h : sortable ds = true) : PySem.W.Sortable ds := by
  unfold sortable at h
  rw [Bool.or_eq_true] at h
  rcases h with h | h
  · refine .inl fun d hd => ?_
    have q := List.all_eq_true.mp h d hd
    cases d with
    | tuple l =>
      cases l with
      | nil => cases q
      | cons x r => exact ⟨x, r, rfl⟩
    | _ => cases q
  · refine .inr fun d hd => ?_
    have q := List.all_eq_true.mp h d hd
    refine ⟨fun e => ?_, fun l e => ?_⟩
    · subst e; cases q
    · subst e; cases q
theorem sort_len (ds : List D) : (sortD ds).length = ds.length := by
  unfold sortD
  exact List.length_mergeSort _
variable {X : Cx}
theorem one_of {vs : List V} {ds : List D} {d : D} (h : RpBs K F H vs (d :: ds)) (e : ds = []) : ∃ v, vs = [v] ∧ RpB K F H v d := by
  subst e
  cases h with
  | cons h t => cases t; exact ⟨_, rfl, h⟩
theorem two_of {vs : List V} {d d' : D} (h : RpBs K F H vs [d, d']) : ∃ v w, vs = [v, w] ∧ RpB K F H v d ∧ RpB K F H w d' := by
  cases h with
  | cons h t =>
    cases t with
    | cons h' t => cases t; exact ⟨_, _, rfl, h, h'⟩
theorem reads_one {I : Inv X pins σ H s} : True := trivial
end
section
variable {X : Cx}
theorem bl_len : CallR X (.builtin "len") (rBl X.K .len) := by
  intro pins s σ H xs us Q I r ⟨F, ds, hs, hx, h⟩
  have h : AnsG X.K F H (dBlt .len ds) Q NoE := h
  match ds, hx, h with
  | [.str z], hx, h =>
    obtain ⟨v, rfl, hv⟩ := one_of hx rfl
    cases hv.str
    simp only [dBlt] at h
    split at h
    · rename_i hz
      exact call_len_str pins s σ H _ us Q I r ⟨z, rfl, by rw [sz_eq]; exact of_decide_eq_true hz, h.here hs (fun _ e => nomatch e) (.int _)⟩
    · exact h.elim
  | [.list xs], hx, h =>
    obtain ⟨v, rfl, hv⟩ := one_of hx rfl
    obtain ⟨p, vs, rfl, h1, r1⟩ := hv.list hs
    exact call_len_seq pins s σ H _ us Q I r ⟨p, vs, rfl, .inl h1.sq, by rw [r1.length]; exact h.here hs (fun _ e => nomatch e) (.int _)⟩
  | [.tuple xs], hx, h =>
    obtain ⟨v, rfl, hv⟩ := one_of hx rfl
    obtain ⟨p, vs, rfl, h1, r1⟩ := hv.tuple hs
    exact call_len_seq pins s σ H _ us Q I r ⟨p, vs, rfl, .inr h1, by rw [r1.length]; exact h.here hs (fun _ e => nomatch e) (.int _)⟩
theorem bl_all (hc : X.calm = true) : CallR X (.builtin "all") (rBl X.K .all) := by
  intro pins s σ H xs us Q I r ⟨F, ds, hs, hx, h⟩
  have h : AnsG X.K F H (dBlt .all ds) Q NoE := h
  match ds, hx, h with
  | [.list xs], hx, h =>
    obtain ⟨v, rfl, hv⟩ := one_of hx rfl
    obtain ⟨p, vs, rfl, h1, r1⟩ := hv.list hs
    simp only [dBlt] at h
    cases e : boolsD xs with
    | ok bs =>
      rw [e] at h
      have := bools_of r1 e
      subst this
      exact cr_all hc pins s σ H _ us Q I r ⟨p, bs, rfl, h1.sq, AnsG.here hs h (fun _ e => nomatch e) (.bl _)⟩
    | ex c => rw [e] at h; exact absurd e (boolsD_ex _ _)
    | no => rw [e] at h; exact h.elim
theorem bl_any (hc : X.calm = true) : CallR X (.builtin "any") (rBl X.K .any) := by
  intro pins s σ H xs us Q I r ⟨F, ds, hs, hx, h⟩
  have h : AnsG X.K F H (dBlt .any ds) Q NoE := h
  match ds, hx, h with
  | [.list xs], hx, h =>
    obtain ⟨v, rfl, hv⟩ := one_of hx rfl
    obtain ⟨p, vs, rfl, h1, r1⟩ := hv.list hs
    simp only [dBlt] at h
    cases e : boolsD xs with
    | ok bs =>
      rw [e] at h
      have := bools_of r1 e
      subst this
      exact cr_any hc pins s σ H _ us Q I r ⟨p, bs, rfl, h1.sq, AnsG.here hs h (fun _ e => nomatch e) (.bl _)⟩
    | ex c => rw [e] at h; exact absurd e (boolsD_ex _ _)
    | no => rw [e] at h; exact h.elim
theorem bl_sum (hc : X.calm = true) : CallR X (.builtin "sum") (rBl X.K .sum) := by
  intro pins s σ H xs us Q I r ⟨F, ds, hs, hx, h⟩
  have h : AnsG X.K F H (dBlt .sum ds) Q NoE := h
  match ds, hx, h with
  | [.list xs], hx, h =>
    obtain ⟨v, rfl, hv⟩ := one_of hx rfl
    obtain ⟨p, vs, rfl, h1, r1⟩ := hv.list hs
    simp only [dBlt] at h
    cases e : intsD xs with
    | ok bs =>
      rw [e] at h
      have := ints_of r1 e
      subst this
      exact cr_sum hc pins s σ H _ us Q I r ⟨p, bs, rfl, h1.sq, AnsG.here hs h (fun _ e => nomatch e) (.int _)⟩
    | ex c => rw [e] at h; exact absurd e (intsD_ex _ _)
    | no => rw [e] at h; exact h.elim
theorem bl_list : CallR X (.type "list") (rBl X.K .list) := by
  intro pins s σ H xs us Q I r ⟨F, ds, hs, hx, h⟩
  have h : AnsG X.K F H (dBlt .list ds) Q NoE := h
  match ds, hx, h with
  | [.list xs], hx, h =>
    obtain ⟨v, rfl, hv⟩ := one_of hx rfl
    obtain ⟨p, vs, rfl, h1, r1⟩ := hv.list hs
    exact call_list_of pins s σ H _ us Q I r ⟨p, vs, rfl, .inl h1.sq, fun l hl => AnsG.new hs h hl r1⟩
  | [.tuple xs], hx, h =>
    obtain ⟨v, rfl, hv⟩ := one_of hx rfl
    obtain ⟨p, vs, rfl, h1, r1⟩ := hv.tuple hs
    exact call_list_of pins s σ H _ us Q I r ⟨p, vs, rfl, .inr h1, fun l hl => AnsG.new hs h hl r1⟩
theorem vals_signs {x : Str} {its : List Value} (h : ItemsOf (SignAt x) its.toArray x.cps.size) : Vals (x.cps.toList.map fun c => V.str ⟨#[c]⟩) its := by
  obtain ⟨h1, h2⟩ := h
  have hl : its.length = x.cps.toList.length := by simpa using h1
  have h3 : ∀ (j : Nat) (v : Value), its[j]? = some v → ∃ c u, x.cps.toList[j]? = some c ∧ v = .str ⟨#[c]⟩ u := fun j v e => by
    obtain ⟨c, u, e1, e2⟩ := h2 j v (by simpa using e)
    exact ⟨c, u, by simpa using e1, e2⟩
  revert hl h3
  generalize x.cps.toList = cs
  clear h1 h2
  intro hl h3
  induction cs generalizing its with
  | nil =>
    cases its with
    | nil => exact .nil
    | cons u us => simp at hl
  | cons c cs ih =>
    cases its with
    | nil => simp at hl
    | cons v us =>
      obtain ⟨c', u, e1, rfl⟩ := h3 0 v rfl
      cases e1
      exact .cons ⟨u, rfl⟩ (ih (by simpa using hl) fun j v e => h3 (j + 1) v (by simpa using e))
theorem rps_signs {K : PySem.W.Frag} {F : Hp} : ∀ cs : List Nat, RpAll K F (cs.map fun c => V.str ⟨#[c]⟩) (cs.map fun c => PyData.str ⟨#[c]⟩)
  | [] => .nil
  | c :: cs => .cons (.str _) (rps_signs cs)
theorem bl_tuple (hc : X.calm = true) : CallR X (.type "tuple") (rBl X.K .tuple) := by
  intro pins s σ H xs us Q I r ⟨F, ds, hs, hx, h⟩
  have h : AnsG X.K F H (dBlt .tuple ds) Q NoE := h
  match ds, hx, h with
  | [.list xs], hx, h =>
    obtain ⟨v, rfl, hv⟩ := one_of hx rfl
    obtain ⟨p, vs, rfl, h1, r1⟩ := hv.list hs
    obtain ⟨u, rfl, rx⟩ := vals1 r
    cases rx
    obtain ⟨its, r', pl, hz⟩ := I.list h1.sq
    refine call_tuple_list pl.isList (fun h' kp => ?_) (by rw [List.size_toArray, ← r'.length]; exact hz)
    obtain ⟨n1, I2⟩ := lay_tup (t' := s.toks) I kp hz r'
    exact ⟨.ref h'.objs.size, _, I2, rfl, AnsG.newT (isTO _) hs h n1 r1⟩
  | [.tuple xs], hx, h =>
    obtain ⟨v, rfl, hv⟩ := one_of hx rfl
    obtain ⟨p, vs, rfl, h1, r1⟩ := hv.tuple hs
    have fa : Rp X.K F (.ref p) (.tuple xs) := by
      rcases hv with h | ⟨_, _, _, _, e, _⟩
      · exact h
      · cases e
    exact call_tuple_of pins s σ H _ us Q I r ⟨p, vs, rfl, .inr ⟨h1, AnsG.here hs h (fun _ e => nomatch e) fa⟩⟩
  | [.str z], hx, h =>
    obtain ⟨v, rfl, hv⟩ := one_of hx rfl
    cases hv.str
    obtain ⟨u, rfl, t, rfl⟩ := vals1 r
    have hn := line63
    simp only [dBlt] at h
    by_cases hz : z.length ≤ 16777216
    · rw [if_pos (by simpa using hz)] at h
      have hz' : z.cps.size ≤ sizeLine := by
        have : z.cps.size = z.length := rfl
        rw [sz_eq]
        omega
      refine call_tuple_str (I.ok.hd hc) z t (fun h' tk acc hk hacc => ?_) hz'
      obtain ⟨its, rfl⟩ : ∃ its : List Value, acc = its.toArray := ⟨acc.toList, by simp⟩
      have rv := vals_signs hacc
      have I1 : Inv X pins σ H { s with heap := h', toks := tk } := I.kept hk
      have hl : (z.cps.toList.map fun c => V.str ⟨#[c]⟩).length ≤ sizeLine := by
        rw [List.length_map, Array.length_toList]
        exact hz'
      obtain ⟨n1, I2⟩ := lay_tup (t' := tk) I hk hl rv
      exact ⟨.ref h'.objs.size, _, I2, rfl, AnsG.newT (isTO _) hs h n1 (rps_signs _)⟩
    · rw [if_neg (by simpa using hz)] at h
      exact h.elim
theorem bl_max2 (hc : X.calm = true) : CallR X (.builtin "max") (rBl X.K .max2) := by
  intro pins s σ H xs us Q I r ⟨F, ds, hs, hx, h⟩
  have h : AnsG X.K F H (dBlt .max2 ds) Q NoE := h
  match ds, hx, h with
  | [.int i, .int j], hx, h =>
    obtain ⟨v, w, rfl, hv, hw⟩ := two_of hx
    cases hv.int; cases hw.int
    exact call_max2 hc pins s σ H _ us Q I r ⟨i, j, rfl, AnsG.here hs h (fun _ e => nomatch e) (.int _)⟩
theorem bl_min2 (hc : X.calm = true) : CallR X (.builtin "min") (rBl X.K .min2) := by
  intro pins s σ H xs us Q I r ⟨F, ds, hs, hx, h⟩
  have h : AnsG X.K F H (dBlt .min2 ds) Q NoE := h
  match ds, hx, h with
  | [.int i, .int j], hx, h =>
    obtain ⟨v, w, rfl, hv, hw⟩ := two_of hx
    cases hv.int; cases hw.int
    exact call_min2 hc pins s σ H _ us Q I r ⟨i, j, rfl, AnsG.here hs h (fun _ e => nomatch e) (.int _)⟩
theorem bl_sorted (hr : Rm X) : CallR X (.builtin "sorted") (rBl X.K .sorted) := by
  intro pins s σ H xs us Q I r ⟨F, ds, hs, hx, h⟩
  have h : AnsG X.K F H (dBlt .sorted ds) Q NoE := h
  match ds, hx, h with
  | [.list xs], hx, h =>
    obtain ⟨v, rfl, hv⟩ := one_of hx rfl
    obtain ⟨p, vs, rfl, h1, r1⟩ := hv.list hs
    simp only [dBlt] at h
    split at h
    · rename_i hz
      rw [Bool.and_eq_true, Bool.and_eq_true] at hz
      obtain ⟨⟨z1, z2⟩, z3⟩ := hz
      obtain ⟨f1, f2⟩ := fine_list z3
      obtain ⟨hsz, its, n, rv, hlen, eo⟩ := rd_list I h1
      rw [Vals.ref1 r]
      have hl : s.heap.IsList p its.toArray := ⟨_, eo, rfl, _, rfl⟩
      have er := each_of rv r1
      have em : xs.map id = xs := List.map_id _
      have eread : PySem.W.EachIs (fun v b => ∃ as, Reads s.heap v (id b) as) its xs := er.mono fun v d ⟨w, rw', rp⟩ => Dp.reads I d w v ((rp.mono hs).dp) rw'
      refine PySem.W.sorted_data (enc := id) (bs := xs) hl er eread (by rw [em]; exact alike_of z1) (by rw [em]; exact sortable_of z2) (by rw [sz_eq]; have := r1.length; rw [sz_eq] at hsz; omega) (fun b hb => ?_) fun out ho hout => ?_
      · have h1 := hr.room
        have h2 := depth_mem hb
        show X.A.units + 2 + b.depth < cLine
        omega
      · obtain ⟨ws, q1, q2⟩ := of_each hout
        obtain ⟨ep, he'⟩ := PyProof.Rows.sortedAll_at s.heap its out.toArray
        have hl2 : ws.length ≤ sizeLine := by
          rw [q2.length]
          have e2 : (xs.mergeSort (PySem.W.dataLe false id)).length = xs.length := List.length_mergeSort _
          rw [e2, ← r1.length]; exact hsz
        exact ⟨.ref _, upd H (s.heap.objs.size + 1) (.lst ws), I.laid (t' := s.toks) (fun _ _ => PyProof.Rows.sortedAll_old) (Nat.le_succ _) ⟨hl2, out, ep, q1, he'⟩, rfl, AnsG.new hs h (I.hok.fresh (Nat.le_succ _)) q2⟩
    · exact h.elim
theorem bl_min1 (hc : X.calm = true) (hr : Rm X) : CallR X (.builtin "min") (rBl X.K .min1) := by
  intro pins s σ H xs us Q I r ⟨F, ds, hs, hx, h⟩
  have h : Ans X.K F H (dBlt .min1 ds) Q NoE := h
  match ds, hx, h with
  | [.list (y :: ys)], hx, h =>
    obtain ⟨v, rfl, hv⟩ := one_of hx rfl
    obtain ⟨p, vs, rfl, h1, r1⟩ := hv.list hs
    simp only [dBlt] at h
    split at h
    · rename_i hz
      rw [Bool.and_eq_true, Bool.and_eq_true] at hz
      obtain ⟨⟨z1, z2⟩, z3⟩ := hz
      obtain ⟨f1, f2⟩ := fine_list z3
      obtain ⟨hsz, its, n, rv, hlen, eo⟩ := rd_list I h1
      rw [Vals.ref1 r]
      have hl : s.heap.IsList p its.toArray := ⟨_, eo, rfl, _, rfl⟩
      obtain ⟨as, rall⟩ := Dp.readsAll I (y :: ys) vs its ((r1.mono hs).dp) rv
      have hal := alike_of z1
      have hnn : ∀ x ∈ (y :: ys), x ≠ PyData.none := by
        intro x hx
        rcases sortable_of z2 with q | q
        · obtain ⟨a, b, e⟩ := q x hx
          rw [e]; exact fun e => nomatch e
        · exact (q x hx).1
      refine PySem.W.min_list_data (vs := its.toArray) (x := y) (xs := ys) (I.ok.hd hc) hl rall ⟨fun x hx y hy => hal x hx y hy, hnn⟩ ?_ fun i v h' tk bs hi hrd hk => ?_
      · have h1 := hr.room
        show X.A.units + 1 + PyData.depthAll (y :: ys) < cLine
        omega
      · have hi' : its[i]? = some v := by simpa using hi
        have hlt : i < its.length := (List.getElem?_eq_some_iff.mp hi').1
        have hv2 : vs[i]? = some (vs[i]'(by omega)) := List.getElem?_eq_getElem _
        obtain ⟨d, e1, rp⟩ := r1.getV hv2
        obtain ⟨u', hu', ru'⟩ := rv.get hv2
        rw [hi'] at hu'
        cases hu'
        have hdm : d ∈ (y :: ys) := List.mem_of_getElem? e1
        obtain ⟨cs, rd⟩ := Dp.reads I d _ v ((rp.mono hs).dp) ru'
        have rd' := PySem.W.reads_keeps hk rd
        have ed : d = PySem.W.minD y ys := SeqAt.plain_unique d _ v _ _ (PySem.W.plain_mem f1 hdm) rd' hrd
        exact ⟨_, H, I.kept hk, ru', Ans.here hs h (ed ▸ rp)⟩
    · exact h.elim
theorem bld {b : Blt} (hc : X.calm = true) (hr : Rm X) : CallR X (bltV b) (rBl X.K b) := by
  cases b with
  | len => exact bl_len
  | all => exact bl_all hc
  | any => exact bl_any hc
  | sum => exact bl_sum hc
  | list => exact bl_list
  | tuple => exact bl_tuple hc
  | sorted => exact bl_sorted hr
  | min1 => exact bl_min1 hc hr
  | max2 => exact bl_max2 hc
  | min2 => exact bl_min2 hc
/-! ### isinstance -/
theorem isiTy {u : Value} {d : D} {as : List Addr} {s : Shared} {A : Around} {prog : Program} {w : World} {E : Value → Shared → Prop} {Q : Value → Shared → Prop} (t : Ty) (r : Reads s.heap u d as) (h : ∀ tk, Q (.bool (isTy t d)) { s with toks := tk }) :
    wpAny (model prog w) A (call (.builtin "isinstance") [u, .type (match t with
      | .int => "int"
      | .bool => "bool"
      | .str => "str"
      | .tuple => "tuple"
      | .list => "list")]) Q E s := by
  cases t with
  | int => exact PySem.W.isinstance_int_data r fun tk _ => h tk
  | bool => exact PySem.W.isinstance_bool_data r fun tk _ => h tk
  | str => exact PySem.W.isinstance_str_data r fun tk _ => h tk
  | tuple => exact PySem.W.isinstance_tuple_data r fun tk _ => h tk
  | list => exact PySem.W.isinstance_list_data r fun tk _ => h tk
end
end Fp

set_option Elab.async false
set_option linter.all false
set_option maxRecDepth 100000
set_option maxHeartbeats 1000000
/-! is None, is True; list.index, list.count; [::-1]. -/
namespace Fp
open PySem PySem.Spec PyProof.Rows L2
section
variable {prog : Program} {w : World} {A : Around} {E : Value → Shared → Prop} {s : Shared}
theorem adjust_rev (n : Nat) : Builtin.Slice.sliceAdjust none none (-1) (n : Int) = ((n : Int) - 1, -1) := by
  simp [Builtin.Slice.sliceAdjust]
theorem places_rev (n : Nat) : Builtin.Slice.slicePlaces ((n : Int) - 1) (-1) (-1) = n := by
  unfold Builtin.Slice.slicePlaces
  have h1 : ¬ ((-1 : Int) > 0) := by decide
  rw [if_neg h1]
  by_cases h : (n : Int) - 1 > -1
  · rw [if_pos h]
    have e : ((n : Int) - 1 - -1 - 1) / (- -1) = (n : Int) - 1 := by
      rw [show (- -1 : Int) = 1 by decide, Int.ediv_one]
      omega
    rw [e]
    omega
  · rw [if_neg h]
    omega
theorem sliceApplied_rev {sl : Addr} {vl vu vs : Value} {n : Nat} {Q : Int × Int × Nat → Shared → Prop} (hs : s.heap.IsSliceOf sl vl vu vs) (pl : IsPart vl none) (pu : IsPart vu none) (ps : IsPart vs (some (-1)))
    (h : Q ((n : Int) - 1, -1, n) s) : wpAny (model prog w) A (Builtin.Slice.sliceApplied (.ref sl) (pure (n : Int))) Q E s := by
  obtain ⟨os, hos, hcs, hds⟩ := id hs
  unfold Builtin.Slice.sliceApplied Builtin.Slice.sliceFields
  refine wpAny_bind (wpAny_bind (wpAny_field hos hds (x := vl) rfl (wpAny_bind (wpAny_field hos hds (x := vu) rfl (wpAny_bind (wpAny_field hos hds (x := vs) rfl (wpAny_pure ?_)))))))
  refine wpAny_bind (HT.slicePart_ ps ?_)
  show wpAny _ _ (if ((-1 : Int) == 0) = true then _ else _) _ _ s
  rw [if_neg (by decide)]
  refine wpAny_bind (HT.slicePart_ pl (wpAny_bind (HT.slicePart_ pu (wpAny_bind (wpAny_pure ?_)))))
  show wpAny _ _ (match Builtin.Slice.sliceAdjust none none (-1) (n : Int) with | (lo, hi) => pure (lo, (-1 : Int), Builtin.Slice.slicePlaces lo hi (-1))) _ _ s
  rw [adjust_rev n]
  show wpAny _ _ (pure ((n : Int) - 1, (-1 : Int), Builtin.Slice.slicePlaces ((n : Int) - 1) (-1) (-1))) _ _ s
  rw [places_rev]
  exact wpAny_pure h
theorem fmc {α β : Type} {f g : α → Option β} : ∀ (l : List α), (∀ a ∈ l, f a = g a) → l.filterMap f = l.filterMap g
  | [], _ => rfl
  | a :: l, h => by
    rw [List.filterMap_cons, List.filterMap_cons, h a List.mem_cons_self, fmc l fun b hb => h b (List.mem_cons_of_mem _ hb)]
theorem pick_rev (xs : Array Value) : ((List.range xs.size).filterMap fun (m : Nat) => xs[(((xs.size : Int) - 1) + (m : Int) * -1).toNat]?).toArray = xs.toList.reverse.toArray := by
  have e : (List.range xs.size).filterMap (fun (m : Nat) => xs[(((xs.size : Int) - 1) + (m : Int) * -1).toNat]?) = xs.toList.reverse := by
    apply List.ext_getElem?
    intro i
    have e1 : (List.range xs.size).filterMap (fun (m : Nat) => xs[(((xs.size : Int) - 1) + (m : Int) * -1).toNat]?) = (List.range xs.size).filterMap (fun (m : Nat) => some (xs.toList.reverse.getD m .none)) := by
      refine fmc _ fun m hm => ?_
      have hm := List.mem_range.mp hm
      have e2 : (((xs.size : Int) - 1) + (m : Int) * -1).toNat = xs.size - 1 - m := by omega
      rw [e2, ← Array.getElem?_toList, List.getD_eq_getElem?_getD, List.getElem?_reverse (by simpa using hm), Array.length_toList]
      rw [List.getElem?_eq_getElem (by rw [Array.length_toList]; omega)]
      rfl
    rw [e1]
    by_cases hi : i < xs.size
    · rw [List.filterMap_eq_map', List.getElem?_map, List.getElem?_range hi]
      simp only [Option.map_some, List.getD_eq_getElem?_getD]
      rw [List.getElem?_eq_getElem (by simpa using hi)]
      rfl
    · rw [List.getElem?_eq_none (by rw [List.filterMap_eq_map', List.length_map, List.length_range]; omega), List.getElem?_eq_none (by simp; omega)]
  rw [e]
theorem getItem_tuple_rev {t sl : Addr} {items : Array Value} {vl vu vs : Value} {Q : Value → Shared → Prop} (ht : IsTup s.heap t items) (hs : s.heap.IsSliceOf sl vl vu vs) (pl : IsPart vl none) (pu : IsPart vu none) (ps : IsPart vs (some (-1)))
    (h : Q (.ref s.heap.objs.size) { s with heap := s.heap.push { cls := .type "tuple", data := .seq items.toList.reverse.toArray } })
    (hsz : items.size ≤ sizeLine) : wpAny (model prog w) A (getItem (.ref t) (.ref sl)) Q E s := by
  have htake : sizeOk (.seq items.toList.reverse.toArray) := by
    show items.toList.reverse.toArray.size ≤ sizeLine
    rw [List.size_toArray, List.length_reverse, Array.length_toList]
    omega
  obtain ⟨os, hos, hcs, hds⟩ := id hs
  have hTs : s.TypeIs (.ref sl) "slice" := ⟨os, hos, hcs⟩
  unfold getItem
  try with_reducible refine wpAny_holding ?_
  first | refine wpAny_bind (wpAny_pure ?_) | skip
  refine wpAny_bind (wpAny_sequenceKey ht.typeIs (by decide) ?_)
  refine wpAny_bind (wpAny_callSpecial?_slot (name := Str.ofString "__getitem__") ht.typeIs PyProof.Rows.slot_tuple_getitem
    (wpAny_call_entry PyProof.Rows.slot_tuple_getitem ht.typeIs entry_tuple_getitem ?_ (args_tuple_getitem _ _)))
  show wpAny _ _ (Builtin.Tuple.tupleItemsOf (.ref t) >>= _) _ _ s
  refine wpAny_bind (tupleItemsOf_ ht ?_)
  refine wpAny_bind (wpAny_typeOf hTs ?_)
  rw [if_pos (by decide)]
  refine wpAny_bind (sliceApplied_rev hs pl pu ps ?_)
  have hno : ¬ ((((items.size : Int) - 1) == 0 && (-1 : Int) == 1 && items.size == items.size) = true) := by
    intro q
    rw [Bool.and_eq_true, Bool.and_eq_true] at q
    exact absurd q.1.2 (by decide)
  show wpAny _ _ (if (((items.size : Int) - 1) == 0 && (-1 : Int) == 1 && items.size == items.size) = true then _ else _) _ _ s
  rw [if_neg hno, pick_rev]
  first
    | exact wpAny_bind (m := Builtin.Tuple.tupleExact _) (wpAny_newObj_type (wpAny_pure ⟨_, rfl, wpAny_pure h⟩) htake)
    | exact wpAny_bind (m := Builtin.Tuple.tupleExact _) (wpAny_newObj_type (wpAny_bind (wpAny_pure (wpAny_pure ⟨_, rfl, wpAny_pure h⟩))) htake)
    | exact wpAny_bind (wpAny_bind (m := Builtin.Tuple.tupleExact _) (wpAny_newObj_type (wpAny_pure (wpAny_pure ⟨_, rfl, wpAny_pure h⟩)) htake))
    | exact wpAny_bind (wpAny_bind (m := Builtin.Tuple.tupleExact _) (wpAny_newObj_type (wpAny_pure ⟨_, rfl, wpAny_pure h⟩) htake))
end
section
variable {X : Cx}
/-! ### [::-1] -/
def tRevD (K : PySem.W.Frag) (te : TE) : TE := fun σ H Q => te σ H fun x H1 => ∃ F a, Same F H1 ∧ RpB K F H1 x a ∧ AnsG K F H1 (dRev a) Q NoE
theorem pe_revD {e : Expr} {te : TE} {k : Nat} {k1 : Nat} {p1 p2 p3 pos : Pos} (he : PE X e te) : PE X (.Subscript e (.Slice none none (some (.UnaryOp .USub (.Constant (.int 1) k p1) p2)) p3) pos) (tRevD X.K te) := by
  refine ⟨fun pins s σ H Q I h => ?_⟩
  refine Subscript_ (thn (he.run pins s σ H _ I h) fun v s1 ⟨x, H1, I1, r1, F, d, hs, ha, q⟩ => ?_)
  have hst : PO X (some (.UnaryOp .USub (.Constant (.int 1) k p1) p2)) (tPart (tUn (rU fun i => .int (-i)) (tC (.int 1)))) := po_some (pe_un un_neg pe_int)
  refine wpAny_Slice (thn (po_none.run pins s1 σ H1 (fun o H2 => o = none ∧ H2 = H1) I1 ⟨rfl, rfl⟩) fun vl s2 ⟨l, H2, I2, pl, el, e2⟩ => ?_)
  subst el e2
  refine thn (po_none.run pins s2 σ H2 (fun o H3 => o = none ∧ H3 = H2) I2 ⟨rfl, rfl⟩) fun vu s3 ⟨u, H3, I3, pu, eu, e3⟩ => ?_
  subst eu e3
  refine thn (hst.run pins s3 σ H3 (fun o H4 => o = some (-1) ∧ H4 = H3) I3 ⟨1, rfl, -1, rfl, rfl, rfl⟩) fun vs s4 ⟨o, H4, I4, ps, eo, e4⟩ => ?_
  subst eo e4
  have I5 : Inv X pins σ H4 { s4 with heap := s4.heap.push { cls := .type "slice", data := .fields #[vl, vu, vs] } } := I4.kept (t' := s4.toks) fun b ob q => Heap.get?_push_of_some _ q
  cases d with
  | list ds =>
    obtain ⟨a, xs, rfl, hx, rp⟩ := ha.list hs
    cases r1
    obtain ⟨its, r, ht, hz⟩ := I5.list hx.sq
    have hlen := r.length
    show wpAny (model X.prog X.w) X.A (subscriptTail e (.Slice none none (some (.UnaryOp .USub (.Constant (.int 1) k p1) p2)) p3) (.ref a) (.ref s4.heap.objs.size)) (EP X pins σ Q) X.xe { s4 with heap := s4.heap.push { cls := .type "slice", data := .fields #[vl, vu, vs] } }
    refine tail_any (ops := [.ref a, .ref s4.heap.objs.size]) ht.isList.typeIs (PySem.slot_list_getitem.lookup) ?_ (by with_unfolding_all rfl)
    refine wpAny_getItem_list_slice ht.isList (Heap.IsSliceOf.new _ vl vu vs) pl pu ps (by decide) ?_ (by rw [List.size_toArray]; omega)
    rw [PySem.W.krv_pick]
    refine ⟨.ref _, _, I5.laid (t' := s4.toks) (o := .lst xs.reverse) (fun b ob q => Heap.get?_push_of_some _ q) (Nat.le_refl _) ?_, rfl, AnsG.new hs q (I5.hok.fresh (Nat.le_refl _)) rp.reverse⟩
    exact ⟨by rw [List.length_reverse]; exact hz, _, 0, r.reverse, Heap.get?_push_size _ rfl⟩
  | tuple ds =>
    obtain ⟨a, xs, rfl, hx, rp⟩ := ha.tuple hs
    cases r1
    obtain ⟨its, r, ht, hz⟩ := I5.tuple hx
    have hlen := r.length
    show wpAny (model X.prog X.w) X.A (subscriptTail e (.Slice none none (some (.UnaryOp .USub (.Constant (.int 1) k p1) p2)) p3) (.ref a) (.ref s4.heap.objs.size)) (EP X pins σ Q) X.xe { s4 with heap := s4.heap.push { cls := .type "slice", data := .fields #[vl, vu, vs] } }
    refine tail_any (ops := [.ref a, .ref s4.heap.objs.size]) ht.typeIs (PyProof.Rows.slot_tuple_getitem.lookup) ?_ (by with_unfolding_all rfl)
    refine getItem_tuple_rev ht (Heap.IsSliceOf.new _ vl vu vs) pl pu ps ?_ (by rw [List.size_toArray]; omega)
    obtain ⟨n1, I6⟩ := lay_tup (t' := s4.toks) I5 (fun _ _ e => e) (by rw [List.length_reverse]; exact hz) r.reverse
    exact ⟨.ref _, _, I6, rfl, AnsG.newT (isTO _) hs q n1 rp.reverse⟩
  | _ => exact q.elim
/-! ### is None, is True, is False -/
def kcV : Kc → V
  | .non => .non
  | .tru => .bl true
  | .fls => .bl false
def rIsK (K : PySem.W.Frag) (n : Bool) (k : Kc) : R2 := fun x y H Q => y = kcV k ∧ ∃ F a, Same F H ∧ RpB K F H x a ∧ AnsT F H ((isK k a).bind fun b => .ok (n != b)) (fun k H' => Q (.bl k) H') NoE
theorem non_of {K : PySem.W.Frag} {F H : Hp} {x : V} {a : D} (h : RpB K F H x a) : decide (x = .non) = noneD a := by
  rcases h with h | ⟨_, _, _, h1, h2, _⟩
  · cases h <;> first
      | rfl
      | (simp [noneD])
  · subst h1 h2
    simp [noneD]
theorem op_isK (n : Bool) (k : Kc) : OpR X (compareOp (if n = true then .IsNot else .Is)) (rIsK X.K n k) := by
  intro pins s σ H x y v u Q I rx ry ⟨ey, F, a, hs, ha, h⟩
  subst ey
  cases k with
  | non =>
    have q := AnsT.ok hs h
    rw [← non_of ha] at q
    cases n with
    | false => exact op_isN pins s σ H _ _ v u Q I rx ry ⟨rfl, by simpa using q⟩
    | true => exact op_notN pins s σ H _ _ v u Q I rx ry ⟨rfl, by simpa using q⟩
  | tru =>
    cases a with
    | bool b =>
      cases ha.bool
      have q := AnsT.ok hs h
      cases n with
      | false => exact op_isBl pins s σ H _ _ v u Q I rx ry ⟨b, true, rfl, rfl, by cases b <;> simpa using q⟩
      | true => exact op_notBl pins s σ H _ _ v u Q I rx ry ⟨b, true, rfl, rfl, by cases b <;> simpa using q⟩
    | _ => exact h.elim
  | fls =>
    cases a with
    | bool b =>
      cases ha.bool
      have q := AnsT.ok hs h
      cases n with
      | false => exact op_isBl pins s σ H _ _ v u Q I rx ry ⟨b, false, rfl, rfl, by cases b <;> simpa using q⟩
      | true => exact op_notBl pins s σ H _ _ v u Q I rx ry ⟨b, false, rfl, rfl, by cases b <;> simpa using q⟩
    | _ => exact h.elim
/-! ### l.index(x), l.count(x) -/
def rMet (K : PySem.W.Frag) (m : Met) : V → List V → Hp → VK → Prop := fun x xs H Q => ∃ F a ds, Same F H ∧ RpB K F H x a ∧ RpBs K F H xs ds ∧ Ans K F H (dMet m a ds) Q NoE
theorem list_of_met {m : Met} {a : D} {ds : List D} {K : PySem.W.Frag} {F H : Hp} {Q : VK} {E : Str → Hp → Prop} (h : Ans K F H (dMet m a ds) Q E) : ∃ xs y, a = .list xs ∧ ds = [y] ∧ fine (.list xs) = true ∧ fine y = true := by
  unfold dMet at h
  split at h
  · rename_i xs y
    split at h
    · rename_i hf
      rw [Bool.and_eq_true] at hf
      exact ⟨_, _, rfl, rfl, hf.1, hf.2⟩
    · exact h.elim
  · rename_i xs y
    split at h
    · rename_i hf
      rw [Bool.and_eq_true] at hf
      exact ⟨_, _, rfl, rfl, hf.1, hf.2⟩
    · exact h.elim
  · exact h.elim
theorem met_place {m : Met} {a : D} {ds : List D} {K : PySem.W.Frag} {F H : Hp} {Q : VK} {E : Str → Hp → Prop} (h : Ans K F H (dMet m a ds) Q E) (s : Same F H) : ∃ xs y, a = .list xs ∧ ds = [y] ∧ match m with
    | .index => ∃ j, PySem.SeqAt.dataPlace xs y = some j ∧ Q (.int (j : Nat)) H
    | .count => Q (.int (xs.countP fun z => PyData.eqv z y : Nat)) H := by
  obtain ⟨xs, y, rfl, rfl, f1, f2⟩ := list_of_met h
  refine ⟨xs, y, rfl, rfl, ?_⟩
  have hf : (fine (.list xs) && fine y) = true := by rw [f1, f2]; rfl
  cases m with
  | index =>
    have h : Ans K F H (if (fine (.list xs) && fine y) = true then (ofO (PySem.SeqAt.dataPlace xs y)).bind fun j => .ok (.int j) else .no) Q E := h
    rw [if_pos hf] at h
    cases e : PySem.SeqAt.dataPlace xs y with
    | none => rw [e] at h; exact h.elim
    | some j => rw [e] at h; exact ⟨j, rfl, Ans.here s h (.int _)⟩
  | count =>
    have h : Ans K F H (if (fine (.list xs) && fine y) = true then .ok (.int (xs.countP fun z => PyData.eqv z y : Nat)) else .no) Q E := h
    rw [if_pos hf] at h
    exact Ans.here s h (.int _)
theorem mt_met (hr : Rm X) (m : Met) : MtR X (match m with
    | .index => "list.index"
    | .count => "list.count") (rMet X.K m) := by
  intro pins s σ H x xs v us Q I rx rxs ⟨F, a, ds, hs, ha, hds, h⟩
  obtain ⟨ys, y, rfl, rfl, f1, f2⟩ := list_of_met h
  obtain ⟨_, _, e1, e2, q⟩ := met_place h hs
  cases e1
  cases e2
  obtain ⟨w, rfl, hw⟩ := one_of hds rfl
  obtain ⟨uy, rfl, ry⟩ := Vals.one rxs
  obtain ⟨p, vs, rfl, h1, r1⟩ := ha.list hs
  cases rx
  obtain ⟨bs, rd⟩ := Dp.reads I y w uy (hw.dp hs) ry
  obtain ⟨hsz, its, n, rv, hlen, eo⟩ := rd_list I h1
  obtain ⟨as, h4⟩ := Dp.readsAll I ys _ its ((r1.mono hs).dp) rv
  have hxs := (fine_list f1).1
  have hroom := hr.in1 (m := y.depth) (fine_list f1).2
  cases m with
  | index =>
    obtain ⟨j, hj, q⟩ := q
    obtain ⟨hjl, hit, hno⟩ := SeqAt.hit_at (vs := its.toArray) (show ReadsAll s.heap its.toArray.toList ys as from h4) hxs hj
    have : (its.toArray.size : Nat) ≤ sizeLine := by rw [List.size_toArray, ← hlen]; exact hsz
    rw [sz_eq] at this
    exact call_meets PySem.F.slot_list_index ⟨_, eo, rfl⟩ PySem.F.entry_list_index (PySem.F.args_list_index_2 _ _)
      (SeqAt.list_indexAt p its.toArray n none #[] uy (fun u => PyData.eqv (SeqAt.readOf s.heap u) y) j hjl (by omega) hit hno) ⟨eo, SeqAt.items_plain (vs := its.toArray) (show ReadsAll s.heap its.toArray.toList ys as from h4) rd hxs (fine_plain f2).1 hroom,
        ⟨.int (j : Nat), H, I.tok _, ⟨_, rfl⟩, q⟩⟩
  | count =>
    exact SeqAt.count_list_data (vs := its.toArray) ⟨_, eo, rfl, _, rfl⟩ (show ReadsAll s.heap its.toArray.toList ys as from h4) rd hxs (fine_plain f2).1 hroom ⟨.int _, H, I.tok _, ⟨_, rfl⟩, q⟩
end
end Fp

set_option Elab.async false
set_option linter.all false
set_option maxRecDepth 100000
set_option maxHeartbeats 1000000
/-! enumerate over a tuple. -/
namespace Fp
open PySem PySem.Spec PyProof.Rows L2
open Sem (wp)
open AutoSeq1 (wpAny_loadPart')
theorem meets_enumerate_newT (l : Addr) (items : Array Value) (n : Nat) (dct : Option Addr) (sl : Array (Option Value)) :
    Meets (Builtin.«enumerate.__new__» ⟨[.type "enumerate", .ref l], []⟩) (fun _ R s => s.heap.get? l = some { cls := .type "tuple", dict := dct, data := .seq items n, slots := sl } ∧
      R (.ok (.ret (.ref (s.heap.push { cls := .type "tuple_iterator", data := .fields #[.ref l, .int 0 0] }).objs.size)))
        { s with heap := (s.heap.push { cls := .type "tuple_iterator", data := .fields #[.ref l, .int 0 0] }).push { cls := .type "enumerate", data := .fields #[.none, .bool false, .ref s.heap.objs.size, rawInt 0, .none, .none] } }) :=
  .of_wp fun prog w A R s h => by
    obtain ⟨hp, g, d, tk, os⟩ := s; obtain ⟨hl, h⟩ := h
    have hsub := sub_enumerate
    have hL : Heap.IsTuple (Shared.heap ⟨hp, g, d, tk, os⟩) l items := ⟨_, hl, rfl, n, rfl⟩
    wp_walk using wpAny_loadPart' hl
    refine wpAny_stack_any fun st => wpAny_pure ?_
    split
    · rename_i c _ _ _ _ _
      cases (c == Value.type "enumerate")
      · wp_walk using wpAny_loadPart' hl, wpAny_pyIter_tuple hL
        exact ⟨_, rfl, h⟩
      · wp_walk using wpAny_loadPart' hl, wpAny_pyIter_tuple hL
        exact ⟨_, rfl, h⟩
    · wp_walk using wpAny_loadPart' hl, wpAny_pyIter_tuple hL
      exact ⟨_, rfl, h⟩
section
variable {prog : Program} {w : World} {A : Around} {E : Value → Shared → Prop} {s : Shared}
theorem call_enumerate_tuple {l : Addr} {items : Array Value} {Q : Value → Shared → Prop} (hL : s.heap.IsTuple l items)
    (h : ∀ h', IsEnum h' (s.heap.objs.size + 1) s.heap.objs.size 0 .none → h'.IsTupleIter s.heap.objs.size l 0 → h'.objs.size = s.heap.objs.size + 2 →
      (∀ b o, s.heap.get? b = some o → h'.get? b = some o) → Q (.ref (s.heap.objs.size + 1)) { s with heap := h' }) :
    wpAny (model prog w) A (call (.type "enumerate") [.ref l]) Q E s := by
  obtain ⟨⟨c, dct, dt, sl⟩, hl, hc, n, hd⟩ := hL
  replace hc : c = .type "tuple" := hc
  replace hd : dt = .seq items n := hd
  subst hc hd
  refine callType_new F.called_enumerate (by decide) (F.typeCall_enumerate_1 _) (F.newCall_enumerate_1 _) (fun obj => F.args_object_init_2 obj _) F.entry_enumerate_new
    (meets_enumerate_newT l items n dct sl) ⟨hl, ?_⟩
  have hz : (s.heap.push { cls := .type "tuple_iterator", data := .fields #[.ref l, .int 0 0] }).objs.size = s.heap.objs.size + 1 := Heap.size_push ..
  show _ ∧ _
  rw [hz]
  have he : IsEnum ((s.heap.push { cls := .type "tuple_iterator", data := .fields #[.ref l, .int 0 0] }).push
      { cls := .type "enumerate", data := .fields #[.none, .bool false, .ref s.heap.objs.size, rawInt 0, .none, .none] }) (s.heap.objs.size + 1) s.heap.objs.size 0 .none := by
    have := Heap.get?_push_size (s.heap.push { cls := .type "tuple_iterator", data := .fields #[.ref l, .int 0 0] })
      (o := { cls := .type "enumerate", data := .fields #[.none, .bool false, .ref s.heap.objs.size, rawInt 0, .none, .none] }) rfl
    rw [hz] at this; exact this
  refine ⟨⟨_, he, rfl⟩, h _ he ⟨_, Heap.get?_push_of_some _ (Heap.get?_push_size _ rfl), rfl, rfl⟩ (by rw [Heap.size_push, hz]) fun b o x => Heap.get?_push_of_some _ (Heap.get?_push_of_some _ x)⟩
end
/-! ### lists and tuples alike -/
def SqB (K : PySem.W.Frag) (t : Bool) (H : Hp) (a : Addr) (xs : List V) : Prop := match t with
  | true => SqT K H a xs
  | false => SqL K H a xs
def itB (t : Bool) (h : Heap) (it a : Addr) (i : Nat) : Prop := match t with
  | true => h.IsTupleIter it a i
  | false => h.IsListIter it a i
def stB (t : Bool) (h : Heap) (a : Addr) (items : Array Value) : Prop := match t with
  | true => h.IsTuple a items
  | false => h.IsList a items
def itO (t : Bool) (a : Addr) : Obj := match t with
  | true => { cls := .type "tuple_iterator", data := .fields #[.ref a, .int 0 0] }
  | false => { cls := .type "list_iterator", data := .fields #[.ref a, .int 0 0] }
theorem itB_new {t : Bool} {h : Heap} {it a : Addr} (e : h.get? it = some (itO t a)) : itB t h it a 0 := by
  cases t with
  | true => exact ⟨_, e, rfl, rfl⟩
  | false => exact ⟨_, e, rfl, rfl⟩
theorem itB_at {t : Bool} {h h' : Heap} {it a : Addr} {i : Nat} (x : itB t h it a i) (k : ∀ o, h.get? it = some o → h'.get? it = some o) : itB t h' it a i := by
  cases t with
  | true => exact Heap.IsTupleIter.at x k
  | false => exact Heap.IsListIter.at x k
theorem itB_obj {t : Bool} {h : Heap} {it a : Addr} {i : Nat} (x : itB t h it a i) : ∃ o, h.get? it = some o ∧ ∀ v, o.data ≠ .cell v := by
  cases t with
  | true =>
    obtain ⟨o, h1, _, h3⟩ := x
    exact ⟨o, h1, fun v q => by rw [h3] at q; cases q⟩
  | false =>
    obtain ⟨o, h1, _, h3⟩ := x
    exact ⟨o, h1, fun v q => by rw [h3] at q; cases q⟩
theorem drB {prog : Program} {w : World} {A : Around} (t : Bool) (hh : A.handled = none) (it a : Addr) (hne : a ≠ it) (items : Array Value) :
    Draws prog w A it [it, a] items.size (fun i v => items[i]? = some v) (fun i h => itB t h it a i ∧ stB t h a items) := by
  cases t with
  | true => exact Draws.tuple hh it a hne items
  | false => exact Draws.list hh it a hne items
theorem bgB (t : Bool) (a : Addr) (items : Array Value) : Begins (.ref a) (itO t a) fun h => stB t h a items := by
  cases t with
  | true => exact begins_tuple a items
  | false => exact begins_list a items
section
variable {X : Cx} {pins : List (Addr × Obj)} {σ : L2.St} {H : Hp} {s : Shared} {a : Addr} {xs ys : List V} {t : Bool}
theorem sqB_st (I : L2.Inv X pins σ H s) (h : SqB X.K t H a xs) : ∃ its : List Value, Vals xs its ∧ stB t s.heap a its.toArray ∧ xs.length ≤ sizeLine ∧ a < s.heap.objs.size := by
  cases t with
  | true =>
    obtain ⟨its, r, p, z⟩ := I.tuple h
    exact ⟨its, r, p, z, p.lt⟩
  | false =>
    obtain ⟨its, r, p, z⟩ := I.list h
    exact ⟨its, r, p.isList, z, p.lt⟩
theorem sqB_inj (I : L2.Inv X pins σ H s) (h : SqB X.K t H a xs) (k : SqB X.K t H a ys) : xs = ys := by
  cases t with
  | true => exact I.tuple_inj h k
  | false => exact I.list_inj h k
end
/-- pairs from a walk, each a new tuple -/
def newP (H : Hp) (v : V) (H' : Hp) (vs : List V) : Prop := ∃ T ob, v = .ref T ∧ H T = none ∧ IsTO ob ∧ H' = upd H T (.frz ob (.tup vs))
theorem pair_laid {X : Cx} {pins : List (Addr × Obj)} {σ : L2.St} {H : Hp} {s : Shared} {h'' : Heap} {t' : Nat} {vs : List V} {us : List Value} {ch : List Addr} (I : L2.Inv X pins σ H s) (hz : vs.length ≤ sizeLine) (rv : Vals vs us)
    (k : ∀ b o, b ∉ ch → s.heap.get? b = some o → h''.get? b = some o) (hf : ∀ b ∈ ch, FpOk X pins H b) (hT : h''.get? s.heap.objs.size = some (tupO us)) (hc : ∀ b ∈ ch, b < s.heap.objs.size) :
    ∃ H', L2.Inv X pins σ H' { s with heap := h'', toks := t' } ∧ newP H (.ref s.heap.objs.size) H' vs ∧ ∀ b ∈ ch, H' b = none := by
  have new : ObjOk X.prog X.w (upd H s.heap.objs.size (.frz (tupO us) (.tup vs))) h'' s.heap.objs.size (.frz (tupO us) (.tup vs)) := ⟨hT, hz, us, rv, ⟨_, hT, rfl, _, rfl⟩⟩
  refine ⟨_, I.turnedNew (t' := t') (ch := ch) k hf (Nat.le_refl _) new, ⟨_, _, rfl, I.hok.fresh (Nat.le_refl _), isTO _, rfl⟩, fun b hb => ?_⟩
  rw [upd_ne (Nat.ne_of_lt (hc b hb))]
  exact (hf b hb).1
/-! ### enumerate -/
def IteX (K : PySem.W.Frag) (t : Bool) (a : Addr) : L2.It :=
  ⟨fun i H => ∃ (xs : List V) (x : V), SqB K t H a xs ∧ xs[i]? = some x, fun i H v H' => ∃ x, newP H v H' [.int (i : Nat), x] ∧ ∀ xs, SqB K t H a xs → xs[i]? = some x, fun i H => ∃ xs : List V, SqB K t H a xs ∧ xs.length = i⟩
theorem turn_enumX {P : Program} {w : World} {K : PySem.W.Frag} {elts : List Expr} {kk : Nat} {tpos : Pos} (t : Bool) (a e it : Addr) :
    Turn P w K (.Tuple elts kk tpos) (IteX K t a) [e, it] e (fun i h => (∃ old, IsEnum h e it ((i : Nat) : Int) old) ∧ itB t h it a i ∧ e ≠ it ∧ e ≠ a ∧ a ≠ it) where
  mem := List.mem_cons_self
  obj := fun i h st b hb => by
    obtain ⟨⟨old, he⟩, hi, _⟩ := st
    rcases List.mem_cons.mp hb with rfl | hb
    · exact ⟨_, he, fun v q => nomatch q⟩
    · cases List.mem_singleton.mp hb
      exact itB_obj hi
  keep := fun i h h' st k => let ⟨⟨old, he⟩, hi, hne⟩ := st; ⟨⟨old, k e (by simp) _ he⟩, itB_at hi fun o q => k it (by simp) o q, hne⟩
  item := by
    rintro X rfl rfl rfl hc i pins s σ H E I hf ⟨⟨old, he⟩, hit, hne, hea, hai⟩ ⟨xs, x, hq, hx⟩
    obtain ⟨its, rv, p, hz, _⟩ := sqB_st I hq
    obtain ⟨u, hu, ru⟩ := rv.get hx
    have hel : e < s.heap.objs.size := Heap.lt_size he
    have hil : it < s.heap.objs.size := let ⟨_, q, _⟩ := itB_obj hit; Heap.lt_size q
    have hlt : i < its.toArray.size := by simpa using (List.getElem?_eq_some_iff.mp hu).1
    have hh : X.A.in1.handled = none := I.ok.hd hc
    refine wpAny_pyNext_enum_itemD (drB t hh it a hai its.toArray) he ⟨hit, p⟩ hlt hne (by simp [hne, hea]) fun u' h' tk hu' ho hit' hT hsz hk => ?_
    have e1 : its.toArray[i]? = some u := by simpa using hu
    cases e1.symm.trans hu'
    refine ⟨_, rfl, wpAny_letOwnedTupleGo_enum (s := { s with heap := h', toks := tk + 1 }) ho fun h'' he' sb => ?_⟩
    obtain ⟨H', I1, n1, f1⟩ := pair_laid (t' := tk + 1) (ch := [e, it]) (vs := [.int (i : Nat), x]) (us := [.int i tk, u]) (h'' := h'') I (by show 2 ≤ sizeLine; decide) (.cons ⟨_, rfl⟩ (.cons ru .nil))
      (fun b ob hb q => by
        simp only [List.mem_cons, List.not_mem_nil, or_false, not_or] at hb
        exact (sb.2 b hb.1).trans (hk b ob hb.1 hb.2 q)) hf ((sb.2 _ (Nat.ne_of_gt hel)).trans hT) (fun b hb => by
        rcases List.mem_cons.mp hb with rfl | hb
        · exact hel
        · cases List.mem_singleton.mp hb
          exact hil)
    refine ⟨.ref s.heap.objs.size, H', I1, rfl, ⟨x, n1, fun ys hy => by rw [sqB_inj I hy hq]; exact hx⟩, ⟨⟨u, ?_⟩, itB_at hit'.1 fun o q => (sb.2 it (Ne.symm hne)).trans q, hne, hea, hai⟩, f1⟩
    rw [show ((i + 1 : Nat) : Int) = (i : Int) + 1 from Int.natCast_succ i]
    exact he'
  done := by
    rintro X rfl rfl rfl hc i pins s σ H E I hf ⟨⟨old, he⟩, hit, hne, hea, hai⟩ ⟨xs, hq, rfl⟩
    obtain ⟨its, rv, p, hz, _⟩ := sqB_st I hq
    have hT : s.TypeIs (.ref e) "enumerate" := ⟨_, he, rfl⟩
    have hl : its.toArray.size = xs.length := List.size_toArray.trans rv.length.symm
    have hh : X.A.in1.handled = none := I.ok.hd hc
    unfold pyNext
    refine wpAny_bind (wpAny_attempt (wpAny_callSpecial?_slot (name := Str.ofString "__next__") hT F.slot_enumerate_next
      (wpAny_call_entry F.slot_enumerate_next hT F.entry_enumerate_next ?_ (F.args_enumerate_next_1 _))))
    show wpAny _ _ (field (.ref e) 2 >>= _) _ _ _
    refine wpAny_bind (wpAny_field he rfl (x := .ref it) rfl ?_)
    refine wpAny_bind ((drB t hh it a hai its.toArray).done s _ _ ⟨by rw [hl]; exact hit, p⟩ fun h' x he' ⟨o, ho, hc'⟩ => ?_)
    refine wpAny_bind (wpAny_isInstance (T := "StopIteration") (b := true) ⟨o, ho, hc'⟩ isSubtype_stop ?_)
    obtain ⟨f0, f1, f2, f3, f4, f5⟩ := hf it (by simp)
    exact wpAny_pure ⟨rfl, I.turned (t' := s.toks) (fun b o hb q => he' b o hb q) f0 f1 f3 f4 f5⟩
  self := fun A i s Q E st h => let ⟨⟨_, he⟩, _⟩ := st; wpAny_pyIter_enum he h
theorem call_enumB {prog : Program} {w : World} {A : Around} {E : Value → Shared → Prop} {s : Shared} (t : Bool) {l : Addr} {items : Array Value} {Q : Value → Shared → Prop} (hL : stB t s.heap l items)
    (h : ∀ h', IsEnum h' (s.heap.objs.size + 1) s.heap.objs.size 0 .none → itB t h' s.heap.objs.size l 0 → (∀ b o, s.heap.get? b = some o → h'.get? b = some o) → Q (.ref (s.heap.objs.size + 1)) { s with heap := h' }) :
    wpAny (model prog w) A (call (.type "enumerate") [.ref l]) Q E s := by
  cases t with
  | true => exact call_enumerate_tuple hL fun h' h1 h2 _ h3 => h h' h1 h2 h3
  | false => exact call_enumerate_list hL fun h' h1 h2 _ h3 => h h' h1 h2 h3
def iEnumX (K : PySem.W.Frag) (ta : TA) : TI := fun σ H R => ta σ H fun vs H1 => ∃ t a xs, vs = [.ref a] ∧ SqB K t H1 a xs ∧ R (IteX K t a) H1
theorem pi_enumX {X : Cx} {e : Expr} {ta : TA} {p pos tpos : Pos} {elts : List Expr} {kk : Nat} (hg : Gl X "enumerate") (hm : X.mg "enumerate" = none) (ha : PA X [e] ta) (hs : starEach [e] X.env = [(false, eval e X.env)] := by rfl) :
    PI X (.Tuple elts kk tpos) (.Call (.Name "enumerate" p) [e] [] pos) (iEnumX X.K ta) := by
  refine ⟨fun pins s σ H R I h => ?_⟩
  refine Call_ (ld_blt I hg hm boot_enumerate (PyProof.Rows.callWith_type1 (thn (ha.run pos pins s σ H _ I h) fun us s1 ⟨vs, H1, I1, r1, t, a, xs, ex, hq, q⟩ => ?_) hs rfl))
  subst ex
  obtain ⟨u, rfl, rx⟩ := vals1 r1
  cases rx
  have fr : ∀ b, b ∈ [s1.heap.objs.size + 1, s1.heap.objs.size] → FpOk X pins H1 b := fun b hb => by
    have hle : s1.heap.objs.size ≤ b := by
      rcases List.mem_cons.mp hb with rfl | hb
      · exact Nat.le_succ _
      · exact Nat.le_of_eq (List.mem_singleton.mp hb).symm
    exact I1.fpOk hle (I1.hok.fresh hle)
  obtain ⟨its, rv, p', hz, hlt⟩ := sqB_st I1 hq
  refine call_enumB t p' fun h' he hit hk => wpAny_pyIter_enum he ?_
  have I2 : L2.Inv X pins σ H1 { s1 with heap := h' } := I1.kept (t' := s1.toks) hk
  exact ⟨s1.heap.objs.size + 1, _, _, _, H1, rfl, I2, turn_enumX t a (s1.heap.objs.size + 1) s1.heap.objs.size, ⟨⟨.none, he⟩, hit, Nat.succ_ne_self _, Nat.ne_of_gt (Nat.lt_succ_of_lt hlt), Nat.ne_of_lt hlt⟩, fr, q⟩
/-! ### zip of two, of three -/
def ItzX (K : PySem.W.Frag) (ta tb : Bool) (a b : Addr) : L2.It :=
  ⟨fun i H => ∃ (xs ys : List V) (x y : V), SqB K ta H a xs ∧ SqB K tb H b ys ∧ xs[i]? = some x ∧ ys[i]? = some y,
    fun i H v H' => ∃ x y, newP H v H' [x, y] ∧ (∀ xs, SqB K ta H a xs → xs[i]? = some x) ∧ ∀ ys, SqB K tb H b ys → ys[i]? = some y,
    fun i H => ∃ xs ys : List V, SqB K ta H a xs ∧ SqB K tb H b ys ∧ i ≤ xs.length ∧ i ≤ ys.length ∧ (i = xs.length ∨ i = ys.length)⟩
theorem turn_zipX {P : Program} {w : World} {K : PySem.W.Frag} {elts : List Expr} {kk : Nat} {tpos : Pos} (ta tb : Bool) {a b z TI TO i1 i2 : Addr} (S : ZipSep2 z TI TO i1 i2 [i1, a] [i2, b]) (na : a ≠ i1) (nb : b ≠ i2) :
    Turn P w K (.Tuple elts kk tpos) (ItzX K ta tb a b) [z, TI, TO, i1, i2] z (fun i h => IsZip h z TI TO .none ∧ IsTupOf2 h TI (.ref i1) (.ref i2) ∧ (∃ x y, IsTupOf2 h TO x y) ∧ itB ta h i1 a i ∧ itB tb h i2 b i) where
  mem := List.mem_cons_self
  obj := fun i h st c hc => by
    obtain ⟨hz, hTI, ⟨x, y, hTO⟩, h1, h2⟩ := st
    simp only [List.mem_cons, List.not_mem_nil, or_false] at hc
    rcases hc with rfl | rfl | rfl | rfl | rfl
    · exact ⟨_, hz, fun v q => nomatch q⟩
    · exact ⟨_, hTI, fun v q => nomatch q⟩
    · exact ⟨_, hTO, fun v q => nomatch q⟩
    · exact itB_obj h1
    · exact itB_obj h2
  keep := fun i h h' st k => by
    obtain ⟨hz, hTI, ⟨x, y, hTO⟩, h1, h2⟩ := st
    exact ⟨k z (by simp) _ hz, k TI (by simp) _ hTI, ⟨x, y, k TO (by simp) _ hTO⟩, itB_at h1 fun o q => k i1 (by simp) o q, itB_at h2 fun o q => k i2 (by simp) o q⟩
  item := by
    rintro X rfl rfl rfl hc i pins s σ H E I hf ⟨hz, hTI, ⟨x0, y0, hTO⟩, h1, h2⟩ ⟨xs, ys, x, y, hqx, hqy, hx, hy⟩
    obtain ⟨its, rv, p, _, _⟩ := sqB_st I hqx
    obtain ⟨jts, rw', p2, _, _⟩ := sqB_st I hqy
    obtain ⟨u, hu, ru⟩ := rv.get hx
    obtain ⟨u2, hu2, ru2⟩ := rw'.get hy
    have hh : X.A.in1.handled = none := I.ok.hd hc
    have l1 : i < its.toArray.size := by simpa using (List.getElem?_eq_some_iff.mp hu).1
    have l2 : i < jts.toArray.size := by simpa using (List.getElem?_eq_some_iff.mp hu2).1
    refine wpAny_pyNext_zipD2_item S (drB ta hh i1 a na its.toArray) (drB tb hh i2 b nb jts.toArray) hz hTI hTO ⟨h1, p⟩ ⟨h2, p2⟩ l1 l2 fun v1 v2 h' tk g1 g2 z' TO' k1 k2 hT hsz hk => ?_
    cases (show its.toArray[i]? = some u by simpa using hu).symm.trans g1
    cases (show jts.toArray[i]? = some u2 by simpa using hu2).symm.trans g2
    refine ⟨_, rfl, wpAny_letOwnedTupleGo_zip (s := { s with heap := h', toks := tk }) z' fun h'' z'' sb => ?_⟩
    have hzl : z < s.heap.objs.size := Heap.lt_size hz
    obtain ⟨H', I1, n1, f1⟩ := pair_laid (t' := tk) (ch := [z, TI, TO, i1, i2]) (vs := [x, y]) (us := [u, u2]) (h'' := h'') I (by show 2 ≤ sizeLine; decide) (.cons ru (.cons ru2 .nil))
      (fun c o hb q => by
        simp only [List.mem_cons, List.not_mem_nil, or_false, not_or] at hb
        exact (sb.2 c hb.1).trans (hk c o hb.1 hb.2.2.1 hb.2.2.2.1 hb.2.2.2.2 q)) hf ((sb.2 _ (Nat.ne_of_gt hzl)).trans hT) (fun c hb => by
        simp only [List.mem_cons, List.not_mem_nil, or_false] at hb
        rcases hb with rfl | rfl | rfl | rfl | rfl
        · exact hzl
        · exact Heap.lt_size hTI
        · exact Heap.lt_size hTO
        · exact let ⟨_, q, _⟩ := itB_obj h1; Heap.lt_size q
        · exact let ⟨_, q, _⟩ := itB_obj h2; Heap.lt_size q)
    refine ⟨.ref s.heap.objs.size, H', I1, rfl, ⟨x, y, n1, fun l hl => by rw [sqB_inj I hl hqx]; exact hx, fun l hl => by rw [sqB_inj I hl hqy]; exact hy⟩, ⟨z'', ?_, ⟨u, u2, ?_⟩, ?_, ?_⟩, f1⟩
    · exact (sb.2 _ S.TIz).trans (hk _ _ S.TIz S.TITO S.TIi1 S.TIi2 hTI)
    · exact (sb.2 _ S.TOz).trans TO'
    · exact itB_at k1.1 fun o q => (sb.2 _ S.zi1.symm).trans q
    · exact itB_at k2.1 fun o q => (sb.2 _ S.zi2.symm).trans q
  done := by
    rintro X rfl rfl rfl hc i pins s σ H E I hf ⟨hz, hTI, ⟨x0, y0, hTO⟩, h1, h2⟩ ⟨xs, ys, hqx, hqy, e1, e2, e3⟩
    obtain ⟨its, rv, p, _, _⟩ := sqB_st I hqx
    obtain ⟨jts, rw', p2, _, _⟩ := sqB_st I hqy
    have hh : X.A.in1.handled = none := I.ok.hd hc
    have l1 : its.toArray.size = xs.length := List.size_toArray.trans rv.length.symm
    have l2 : jts.toArray.size = ys.length := List.size_toArray.trans rw'.length.symm
    refine wpAny_pyNext_zipD2_end S (drB ta hh i1 a na its.toArray) (drB tb hh i2 b nb jts.toArray) hz hTI hTO ⟨h1, p⟩ ⟨h2, p2⟩ (by rw [l1]; exact e1) (by rw [l2]; exact e2) (by rw [l1, l2]; exact e3) fun h' tk hk => ⟨rfl, I.turnedL (t' := tk) (ch := [z, TI, TO, i1, i2]) (fun c o hb q => ?_) hf⟩
    simp only [List.mem_cons, List.not_mem_nil, or_false, not_or] at hb
    exact hk c o hb.1 hb.2.2.1 hb.2.2.2.1 hb.2.2.2.2 q
  self := fun A i s Q E st h => wpAny_pyIter_zip st.1 h
def ItzX3 (K : PySem.W.Frag) (ta tb tc : Bool) (a b c : Addr) : L2.It :=
  ⟨fun i H => ∃ (xs ys zs : List V) (x y z : V), SqB K ta H a xs ∧ SqB K tb H b ys ∧ SqB K tc H c zs ∧ xs[i]? = some x ∧ ys[i]? = some y ∧ zs[i]? = some z,
    fun i H v H' => ∃ x y z, newP H v H' [x, y, z] ∧ (∀ xs, SqB K ta H a xs → xs[i]? = some x) ∧ (∀ ys, SqB K tb H b ys → ys[i]? = some y) ∧ ∀ zs, SqB K tc H c zs → zs[i]? = some z,
    fun i H => ∃ xs ys zs : List V, SqB K ta H a xs ∧ SqB K tb H b ys ∧ SqB K tc H c zs ∧ i ≤ xs.length ∧ i ≤ ys.length ∧ i ≤ zs.length ∧ (i = xs.length ∨ i = ys.length ∨ i = zs.length)⟩
theorem turn_zipX3 {P : Program} {w : World} {K : PySem.W.Frag} {elts : List Expr} {kk : Nat} {tpos : Pos} (ta tb tc : Bool) {a b c z TI TO i1 i2 i3 : Addr} (S : ZipSep3 z TI TO i1 i2 i3 [i1, a] [i2, b] [i3, c]) (na : a ≠ i1) (nb : b ≠ i2) (nc : c ≠ i3) :
    Turn P w K (.Tuple elts kk tpos) (ItzX3 K ta tb tc a b c) [z, TI, TO, i1, i2, i3] z (fun i h => IsZip h z TI TO .none ∧ IsTupOf3 h TI (.ref i1) (.ref i2) (.ref i3) ∧ (∃ x y v, IsTupOf3 h TO x y v) ∧ itB ta h i1 a i ∧ itB tb h i2 b i ∧ itB tc h i3 c i) where
  mem := List.mem_cons_self
  obj := fun i h st q hq => by
    obtain ⟨hz, hTI, ⟨x, y, v, hTO⟩, h1, h2, h3⟩ := st
    simp only [List.mem_cons, List.not_mem_nil, or_false] at hq
    rcases hq with rfl | rfl | rfl | rfl | rfl | rfl
    · exact ⟨_, hz, fun v q => nomatch q⟩
    · exact ⟨_, hTI, fun v q => nomatch q⟩
    · exact ⟨_, hTO, fun v q => nomatch q⟩
    · exact itB_obj h1
    · exact itB_obj h2
    · exact itB_obj h3
  keep := fun i h h' st k => by
    obtain ⟨hz, hTI, ⟨x, y, v, hTO⟩, h1, h2, h3⟩ := st
    exact ⟨k z (by simp) _ hz, k TI (by simp) _ hTI, ⟨x, y, v, k TO (by simp) _ hTO⟩, itB_at h1 fun o q => k i1 (by simp) o q, itB_at h2 fun o q => k i2 (by simp) o q, itB_at h3 fun o q => k i3 (by simp) o q⟩
  item := by
    rintro X rfl rfl rfl hc i pins s σ H E I hf ⟨hz, hTI, ⟨x0, y0, v0, hTO⟩, h1, h2, h3⟩ ⟨xs, ys, zs, x, y, v, hqx, hqy, hqz, hx, hy, hv⟩
    obtain ⟨its, rv, p, _, _⟩ := sqB_st I hqx
    obtain ⟨jts, rw', p2, _, _⟩ := sqB_st I hqy
    obtain ⟨kts, rz, p3, _, _⟩ := sqB_st I hqz
    obtain ⟨u, hu, ru⟩ := rv.get hx
    obtain ⟨u2, hu2, ru2⟩ := rw'.get hy
    obtain ⟨u3, hu3, ru3⟩ := rz.get hv
    have hh : X.A.in1.handled = none := I.ok.hd hc
    have l1 : i < its.toArray.size := by simpa using (List.getElem?_eq_some_iff.mp hu).1
    have l2 : i < jts.toArray.size := by simpa using (List.getElem?_eq_some_iff.mp hu2).1
    have l3 : i < kts.toArray.size := by simpa using (List.getElem?_eq_some_iff.mp hu3).1
    refine wpAny_pyNext_zipD3_item S (drB ta hh i1 a na its.toArray) (drB tb hh i2 b nb jts.toArray) (drB tc hh i3 c nc kts.toArray) hz hTI hTO ⟨h1, p⟩ ⟨h2, p2⟩ ⟨h3, p3⟩ l1 l2 l3 fun v1 v2 v3 h' tk g1 g2 g3 z' TO' k1 k2 k3 hT hsz hk => ?_
    cases (show its.toArray[i]? = some u by simpa using hu).symm.trans g1
    cases (show jts.toArray[i]? = some u2 by simpa using hu2).symm.trans g2
    cases (show kts.toArray[i]? = some u3 by simpa using hu3).symm.trans g3
    refine ⟨_, rfl, wpAny_letOwnedTupleGo_zip (s := { s with heap := h', toks := tk }) z' fun h'' z'' sb => ?_⟩
    have hzl : z < s.heap.objs.size := Heap.lt_size hz
    obtain ⟨H', I1, n1, f1⟩ := pair_laid (t' := tk) (ch := [z, TI, TO, i1, i2, i3]) (vs := [x, y, v]) (us := [u, u2, u3]) (h'' := h'') I (by show 3 ≤ sizeLine; decide) (.cons ru (.cons ru2 (.cons ru3 .nil)))
      (fun d o hb q => by
        simp only [List.mem_cons, List.not_mem_nil, or_false, not_or] at hb
        exact (sb.2 d hb.1).trans (hk d o hb.1 hb.2.2.1 hb.2.2.2.1 hb.2.2.2.2.1 hb.2.2.2.2.2 q)) hf ((sb.2 _ (Nat.ne_of_gt hzl)).trans hT) (fun d hb => by
        simp only [List.mem_cons, List.not_mem_nil, or_false] at hb
        rcases hb with rfl | rfl | rfl | rfl | rfl | rfl
        · exact hzl
        · exact Heap.lt_size hTI
        · exact Heap.lt_size hTO
        · exact let ⟨_, q, _⟩ := itB_obj h1; Heap.lt_size q
        · exact let ⟨_, q, _⟩ := itB_obj h2; Heap.lt_size q
        · exact let ⟨_, q, _⟩ := itB_obj h3; Heap.lt_size q)
    refine ⟨.ref s.heap.objs.size, H', I1, rfl, ⟨x, y, v, n1, fun l hl => by rw [sqB_inj I hl hqx]; exact hx, fun l hl => by rw [sqB_inj I hl hqy]; exact hy, fun l hl => by rw [sqB_inj I hl hqz]; exact hv⟩, ⟨z'', ?_, ⟨u, u2, u3, ?_⟩, ?_, ?_, ?_⟩, f1⟩
    · exact (sb.2 _ S.TIz).trans (hk _ _ S.TIz S.TITO S.TIi1 S.TIi2 S.TIi3 hTI)
    · exact (sb.2 _ S.TOz).trans TO'
    · exact itB_at k1.1 fun o q => (sb.2 _ S.zi1.symm).trans q
    · exact itB_at k2.1 fun o q => (sb.2 _ S.zi2.symm).trans q
    · exact itB_at k3.1 fun o q => (sb.2 _ S.zi3.symm).trans q
  done := by
    rintro X rfl rfl rfl hc i pins s σ H E I hf ⟨hz, hTI, ⟨x0, y0, v0, hTO⟩, h1, h2, h3⟩ ⟨xs, ys, zs, hqx, hqy, hqz, e1, e2, e3, e4⟩
    obtain ⟨its, rv, p, _, _⟩ := sqB_st I hqx
    obtain ⟨jts, rw', p2, _, _⟩ := sqB_st I hqy
    obtain ⟨kts, rz, p3, _, _⟩ := sqB_st I hqz
    have hh : X.A.in1.handled = none := I.ok.hd hc
    have l1 : its.toArray.size = xs.length := List.size_toArray.trans rv.length.symm
    have l2 : jts.toArray.size = ys.length := List.size_toArray.trans rw'.length.symm
    have l3 : kts.toArray.size = zs.length := List.size_toArray.trans rz.length.symm
    refine wpAny_pyNext_zipD3_end S (drB ta hh i1 a na its.toArray) (drB tb hh i2 b nb jts.toArray) (drB tc hh i3 c nc kts.toArray) hz hTI hTO ⟨h1, p⟩ ⟨h2, p2⟩ ⟨h3, p3⟩ (by rw [l1]; exact e1) (by rw [l2]; exact e2) (by rw [l3]; exact e3) (by rw [l1, l2, l3]; exact e4) fun h' tk hk =>
      ⟨rfl, I.turnedL (t' := tk) (ch := [z, TI, TO, i1, i2, i3]) (fun d o hb q => ?_) hf⟩
    simp only [List.mem_cons, List.not_mem_nil, or_false, not_or] at hb
    exact hk d o hb.1 hb.2.2.1 hb.2.2.2.1 hb.2.2.2.2.1 hb.2.2.2.2.2 q
  self := fun A i s Q E st h => wpAny_pyIter_zip st.1 h
def iZipX (K : PySem.W.Frag) (ta : TA) : TI := fun σ H R => ta σ H fun vs H1 => ∃ t u a b xs ys, vs = [.ref a, .ref b] ∧ SqB K t H1 a xs ∧ SqB K u H1 b ys ∧ R (ItzX K t u a b) H1
theorem pi_zipX {X : Cx} {e e2 : Expr} {ta : TA} {p pos tpos : Pos} {elts : List Expr} {kk : Nat} (hg : Gl X "zip") (hm : X.mg "zip" = none) (ha : PA X [e, e2] ta)
    (hs : starEach [e, e2] X.env = (false, eval e X.env) :: starEach [e2] X.env := by rfl) (hpl : (backTo pos (starEach [e2] X.env)).any (·.1) = false := by rfl) :
    PI X (.Tuple elts kk tpos) (.Call (.Name "zip" p) [e, e2] [] pos) (iZipX X.K ta) := by
  refine ⟨fun pins s σ H R I h => ?_⟩
  refine Call_ (ld_blt I hg hm PyProof.Rows.boot_zip (PyProof.Rows.callWith_type1 (thn (ha.run pos pins s σ H _ I h) fun us s1 ⟨vs, H1, I1, r1, t, u, a, b, xs, ys, ex, hqx, hqy, q⟩ => ?_) hs hpl))
  subst ex
  cases r1 with
  | cons r rr =>
    obtain ⟨v2, rfl, r2⟩ := vals1 rr
    cases r
    cases r2
    obtain ⟨its, rv, p1, _, la⟩ := sqB_st I1 hqx
    obtain ⟨jts, rw', p2, _, lb⟩ := sqB_st I1 hqy
    refine zip_begins2 (bgB t a its.toArray) (bgB u b jts.toArray) p1 p2 fun h' hz hTI hTO h1 h2 hsz hk => wpAny_pyIter_zip hz ?_
    have I2 : L2.Inv X pins σ H1 { s1 with heap := h' } := I1.kept (t' := s1.toks) hk
    have S := zip_sep2 (N := s1.heap.objs.size) (fp1 := [a]) (fp2 := [b]) (fun c hc => by cases List.mem_singleton.mp hc; exact la) (fun c hc => by cases List.mem_singleton.mp hc; exact lb)
    refine ⟨s1.heap.objs.size + 4, _, _, _, H1, rfl, I2, turn_zipX t u S (Nat.ne_of_lt la) (Nat.ne_of_lt (Nat.lt_succ_of_lt lb)), ⟨hz, hTI, ⟨_, _, hTO⟩, itB_new h1, itB_new h2⟩, fun c hc => ?_, q⟩
    have hle : s1.heap.objs.size ≤ c := by
      simp only [List.mem_cons, List.not_mem_nil, or_false] at hc
      rcases hc with rfl | rfl | rfl | rfl | rfl
      · exact Nat.le_add_right _ _
      · exact Nat.le_add_right _ _
      · exact Nat.le_add_right _ _
      · exact Nat.le_refl _
      · exact Nat.le_add_right _ _
    exact I1.fpOk hle (I1.hok.fresh hle)
def iZipX3 (K : PySem.W.Frag) (ta : TA) : TI := fun σ H R => ta σ H fun vs H1 => ∃ t u w a b c xs ys zs, vs = [.ref a, .ref b, .ref c] ∧ SqB K t H1 a xs ∧ SqB K u H1 b ys ∧ SqB K w H1 c zs ∧ R (ItzX3 K t u w a b c) H1
theorem pi_zipX3 {X : Cx} {e e2 e3 : Expr} {ta : TA} {p pos tpos : Pos} {elts : List Expr} {kk : Nat} (hg : Gl X "zip") (hm : X.mg "zip" = none) (ha : PA X [e, e2, e3] ta)
    (hs : starEach [e, e2, e3] X.env = (false, eval e X.env) :: starEach [e2, e3] X.env := by rfl) (hpl : (backTo pos (starEach [e2, e3] X.env)).any (·.1) = false := by rfl) :
    PI X (.Tuple elts kk tpos) (.Call (.Name "zip" p) [e, e2, e3] [] pos) (iZipX3 X.K ta) := by
  refine ⟨fun pins s σ H R I h => ?_⟩
  refine Call_ (ld_blt I hg hm PyProof.Rows.boot_zip (PyProof.Rows.callWith_type1 (thn (ha.run pos pins s σ H _ I h) fun us s1 ⟨vs, H1, I1, r1, t, u, w, a, b, c, xs, ys, zs, ex, hqx, hqy, hqz, q⟩ => ?_) hs hpl))
  subst ex
  cases r1 with
  | cons r rr =>
    cases rr with
    | cons r2 rr =>
      obtain ⟨v3, rfl, r3⟩ := vals1 rr
      cases r
      cases r2
      cases r3
      obtain ⟨its, rv, p1, _, la⟩ := sqB_st I1 hqx
      obtain ⟨jts, rw', p2, _, lb⟩ := sqB_st I1 hqy
      obtain ⟨kts, rz, p3, _, lc⟩ := sqB_st I1 hqz
      refine zip_begins3 (bgB t a its.toArray) (bgB u b jts.toArray) (bgB w c kts.toArray) p1 p2 p3 fun h' hz hTI hTO h1 h2 h3 hsz hk => wpAny_pyIter_zip hz ?_
      have I2 : L2.Inv X pins σ H1 { s1 with heap := h' } := I1.kept (t' := s1.toks) hk
      have S := zip_sep3 (N := s1.heap.objs.size) (fp1 := [a]) (fp2 := [b]) (fp3 := [c]) (fun c hc => by cases List.mem_singleton.mp hc; exact la) (fun c hc => by cases List.mem_singleton.mp hc; exact lb) (fun c hc => by cases List.mem_singleton.mp hc; exact lc)
      refine ⟨s1.heap.objs.size + 5, _, _, _, H1, rfl, I2, turn_zipX3 t u w S (Nat.ne_of_lt la) (Nat.ne_of_lt (Nat.lt_succ_of_lt lb)) (Nat.ne_of_lt (Nat.lt_succ_of_lt (Nat.lt_succ_of_lt lc))), ⟨hz, hTI, ⟨_, _, _, hTO⟩, itB_new h1, itB_new h2, itB_new h3⟩, fun c hc => ?_, q⟩
      have hle : s1.heap.objs.size ≤ c := by
        simp only [List.mem_cons, List.not_mem_nil, or_false] at hc
        rcases hc with rfl | rfl | rfl | rfl | rfl | rfl
        · exact Nat.le_add_right _ _
        · exact Nat.le_add_right _ _
        · exact Nat.le_add_right _ _
        · exact Nat.le_refl _
        · exact Nat.le_add_right _ _
        · exact Nat.le_add_right _ _
      exact I1.fpOk hle (I1.hok.fresh hle)
end Fp

set_option Elab.async false
set_option linter.all false
set_option maxRecDepth 100000
set_option maxHeartbeats 1000000
/-! The readings of terms; what a text's shape says. -/
namespace Fp
open PySem PySem.Spec PyProof.Rows L2

/-! ### shapes -/
def shp : Expr → Bool
  | .BoolOp _ _ _ => true
  | .BinOp _ _ _ _ => true
  | .UnaryOp _ _ _ => true
  | .IfExp _ _ _ _ => true
  | .ListComp _ _ _ _ => true
  | .Compare _ _ _ _ => true
  | .Call _ (_ :: _) _ _ => true
  | .Constant _ _ _ => true
  | .Subscript _ _ _ => true
  | .Name _ _ => true
  | .List _ _ => true
  | .Tuple _ _ _ => true
  | _ => false
section
variable {G : Gx} {bk : Bk} {bor : Bool}
theorem chkEs_len : ∀ {es : Es} {xs : List Expr}, chkEs G bk bor es xs = true → xs.length = es.len
  | .nil, [], _ => rfl
  | .cons e r, x :: xs, h => by
    simp only [chkEs, Bool.and_eq_true] at h
    rw [List.length_cons, chkEs_len h.2]
    rfl
  | .nil, _ :: _, h => by simp [chkEs] at h
  | .cons _ _, [], h => by simp [chkEs] at h
theorem blt_pos (b : Blt) : 0 < bltN b := by cases b <;> decide
theorem chk_shp {e : E} {x : Expr} (h : chkE G bk bor e x = true) : shp x = true := by
  cases x with
  | Call f as ks pos =>
    cases as with
    | cons a as => rfl
    | nil =>
      exfalso
      cases e <;> first
        | (simp [chkE] at h; done)
        | skip
      · cases f <;> cases ks <;> simp only [chkE, Bool.and_eq_true, decide_eq_true_eq] at h <;> first
          | (cases h; done)
          | (have := chkEs_len h.2; have h2 := h.1.2; simp at this; omega)
      · cases f <;> cases ks <;> simp only [chkE, Bool.and_eq_true, decide_eq_true_eq] at h <;> first
          | (cases h; done)
          | (rename_i b _ _ _; have := chkEs_len h.2; have h2 := h.1.2; have h3 := blt_pos b; simp at this; omega)
      · cases f <;> cases ks <;> simp only [chkE, Bool.and_eq_true, decide_eq_true_eq] at h <;> first
          | (cases h; done)
          | (have := chkEs_len h.2; have h2 := h.1.1.2; simp at this; omega)
      · cases f <;> cases ks <;> first
          | (simp [chkE] at h; done)
          | skip
        rename_i v ix p
        cases v <;> first
          | (simp [chkE] at h; done)
          | skip
        simp only [chkE, Bool.and_eq_true, decide_eq_true_eq] at h
        have := chkEs_len h.2
        have h2 := h.1.1.2
        simp at this
        omega
  | _ => first
    | rfl
    | (exfalso; cases e <;> simp [chkE] at h)
end
section
variable {x : Expr} {env : PySem.Env}
theorem shp_star (h : shp x = true) (es : List Expr) : starEach (x :: es) env = (false, eval x env) :: starEach es env := by
  cases x <;> first
    | rfl
    | (simp [shp] at h)
theorem shp_base (h : shp x = true) (n : Str) : attributeBase x n env (eval x env) = eval x env := by
  cases x <;> first
    | rfl
    | (simp [shp] at h; done)
    | skip
  rename_i f as ks pos
  cases as with
  | nil => simp [shp] at h
  | cons a as => cases f <;> rfl
theorem shp_fold (h : shp x = true) (v : Value) : foldedSetIterable x env v = pure v := by
  cases x <;> first
    | rfl
    | (simp [shp] at h)
theorem shp_mark (h : shp x = true) (o : CmpOp) : behindInMarks o x = false := by
  cases x <;> first
    | rfl
    | (simp [shp] at h)
theorem shp_ix (h : shp x = true) : PlainIx x := by
  intro o i
  cases x <;> first
    | rfl
    | (simp [shp] at h)
theorem starOk : ∀ {xs : List Expr}, (∀ x ∈ xs, shp x = true) → (starEach xs env).all (fun p => !p.1) = true
  | [], _ => rfl
  | x :: xs, h => by
    rw [shp_star (h x List.mem_cons_self), List.all_cons, starOk fun y hy => h y (List.mem_cons_of_mem _ hy)]
    rfl
end
theorem chkEs_shp {G : Gx} {bk : Bk} {bor : Bool} : ∀ {es : Es} {xs : List Expr}, chkEs G bk bor es xs = true → ∀ x ∈ xs, shp x = true
  | .nil, [], _, _, h => by cases h
  | .cons e r, x :: xs, h, y, hy => by
    simp only [chkEs, Bool.and_eq_true] at h
    rcases List.mem_cons.mp hy with rfl | hy
    · exact chk_shp h.1
    · exact chkEs_shp h.2 y hy
  | .nil, _ :: _, h, _, _ => by simp [chkEs] at h
  | .cons _ _, [], h, _, _ => by simp [chkEs] at h
theorem backTo_any {p : Pos} : ∀ {l : List (Bool × Sem Value)}, l.all (fun q => !q.1) = true → (backTo p l).any (·.1) = false
  | [], _ => rfl
  | a :: l, h => by
    rw [List.all_cons, Bool.and_eq_true] at h
    have : (backTo p (a :: l)).any (·.1) = (a.1 || (backTo p l).any (·.1)) := rfl
    rw [this, backTo_any h.2]
    simpa using h.1
end Fp

set_option Elab.async false
set_option linter.all false
set_option maxRecDepth 100000
set_option maxHeartbeats 1000000
/-! The readings of terms. -/
namespace Fp
open PySem PySem.Spec PyProof.Rows L2
abbrev WD := Str → L2.St → Hp → Prop
/-- an answer, whatever is asked of it -/
def AnsW {α : Type} (F H : Hp) (x : R α) (S : α → Hp → Hp → Prop) (Ex : Str → Hp → Prop) : Prop := match x with
  | .ok d => ∀ F' H', Ext F H F' H' → S d F' H'
  | .ex c => ∀ F' H', Ext F H F' H' → Ex c H'
  | .no => False
section
variable {α β : Type} {F H F1 H1 : Hp} {S : α → Hp → Hp → Prop} {Ex : Str → Hp → Prop}
theorem AnsW.ext {x : R α} (h : AnsW F H x S Ex) (e : Ext F H F1 H1) : AnsW F1 H1 x S Ex := by
  cases x with
  | no => exact h
  | ex c => exact fun F' H' e' => h F' H' (e.trans e')
  | ok d => exact fun F' H' e' => h F' H' (e.trans e')
theorem AnsW.bind {x : R β} {f : β → R α} {T : β → Hp → Hp → Prop} (h : AnsW F H (x.bind f) S Ex) (k : ∀ a F' H', x = .ok a → Ext F H F' H' → AnsW F' H' (f a) S Ex → T a F' H') : AnsW F H x T Ex := by
  cases x with
  | no => exact h
  | ex c => exact h
  | ok d => exact fun F' H' e => k d F' H' rfl e (AnsW.ext h e)
theorem AnsW.imp {x : R α} {S' : α → Hp → Hp → Prop} (h : AnsW F H x S Ex) (k : ∀ a F' H', Ext F H F' H' → S a F' H' → S' a F' H') : AnsW F H x S' Ex := by
  cases x with
  | no => exact h
  | ex c => exact h
  | ok d => exact fun F' H' e => k d F' H' e (h F' H' e)
theorem AnsW.here {d : α} (s : Same F H) (h : AnsW F H (.ok d) S Ex) : S d F H := h F H (.refl s)
def NoX (x : R α) : Prop := ∀ c, x ≠ .ex c
end
def Rb (K : PySem.W.Frag) (bor : Bool) (F H : Hp) (v : V) (d : D) : Prop := if bor = true then RpB K F H v d else Rp K F v d
def Rbs (K : PySem.W.Frag) (bor : Bool) (F H : Hp) (vs : List V) (ds : List D) : Prop := if bor = true then RpBs K F H vs ds else RpAll K F vs ds
/-- where what is walked stays as it is -/
def Pk (bor : Bool) (F H F' H' : Hp) : Prop := if bor = true then Ext F H F' H' else Same F F' ∧ Same F' H'
structure Wk (K : PySem.W.Frag) (J : L2.It) (ds : List D) (P : Hp → Hp → Prop) : Prop where
  go : ∀ i d F' H', ds[i]? = some d → P F' H' → J.go i H' ∧ ∀ x H3, J.yld i H' x H3 → ∃ F3, Ext F' H' F3 H3 ∧ Rp K F3 x d
  stop : ∀ F' H', P F' H' → J.stop ds.length H'
/-- a new list, not frozen; anything else frozen -/
def SG (K : PySem.W.Frag) (H : Hp) (Q : VK) (d : D) (F' H' : Hp) : Prop :=
  (∀ v, (∀ ds, d ≠ .list ds) → Rp K F' v d → Q v H') ∧ ∀ ds p vs, d = .list ds → H p = none → H' p = some (.lst vs) → F' p = none → RpAll K F' vs ds → Q (.ref p) H'
section
variable {K : PySem.W.Frag} {F H F1 H1 : Hp} {Q : VK} {Ex : Str → Hp → Prop} {bor : Bool}
theorem Rb.grow {v : V} {d : D} (e : Ext F H F1 H1) (h : Rb K bor F H v d) : Rb K bor F1 H1 v d := by
  unfold Rb at h ⊢
  split at h
  · rename_i hb; rw [if_pos hb]; exact RpB.grow e h
  · rename_i hb; rw [if_neg hb]; exact h.mono e.ff
theorem Rb.b {v : V} {d : D} (h : Rb K bor F H v d) : RpB K F H v d := by
  unfold Rb at h
  split at h
  · exact h
  · exact .inl h
theorem Rb.of {v : V} {d : D} (h : Rp K F v d) : Rb K bor F H v d := by
  unfold Rb
  split
  · exact .inl h
  · exact h
theorem Rbs.nil : Rbs K bor F H [] [] := by
  unfold Rbs
  split
  · exact .nil
  · exact .nil
theorem Rbs.cons {v : V} {vs : List V} {d : D} {ds : List D} (h : Rb K bor F H v d) (t : Rbs K bor F H vs ds) : Rbs K bor F H (v :: vs) (d :: ds) := by
  unfold Rbs Rb at *
  split at h
  · rename_i hb; rw [if_pos hb] at t ⊢; exact .cons h t
  · rename_i hb; rw [if_neg hb] at t ⊢; exact .cons h t
theorem AnsW.toA {x : R D} (h : AnsW F H x (fun d F' H' => ∀ v, Rp K F' v d → Q v H') Ex) (n : NoX x) : Ans K F H x Q NoE := by
  cases x with
  | no => exact h
  | ex c => exact absurd rfl (n c)
  | ok d => exact fun v F' H' e r => h F' H' e v r
theorem AnsW.toG {x : R D} (h : AnsW F H x (SG K H1 Q) Ex) (n : NoX x) (z : ∀ p, H p = none → H1 p = none) : AnsG K F H x Q NoE := by
  cases x with
  | no => exact h
  | ex c => exact absurd rfl (n c)
  | ok d => exact ⟨fun v F' H' nl e r => (h F' H' e).1 v nl r, fun ds p vs F' H' ed hp ho hf e r => (h F' H' e).2 ds p vs ed (z p hp) ho hf r⟩
theorem AnsW.toT {x : R Bool} {Q : Bool → Hp → Prop} (h : AnsW F H x (fun d _ H' => Q d H') Ex) (n : NoX x) : AnsT F H x Q NoE := by
  cases x with
  | no => exact h
  | ex c => exact absurd rfl (n c)
  | ok d => exact fun F' H' e => h F' H' e
/-! ### states grow -/
variable {F0 H0 : Hp} {ea : Ea} {env : Env} {σ : L2.St}
theorem SlotOk.grow {s : Slot} {x : Option V} (e : Ext F H F1 H1) (h : SlotOk K H0 F H ea s x) : SlotOk K H0 F1 H1 ea s x := by
  cases s with
  | un => trivial
  | exc c => exact h
  | val d =>
    obtain ⟨v, h1, h2⟩ := h
    exact ⟨v, h1, h2.mono e.ff⟩
  | own d =>
    obtain ⟨a, o, h1, h2, h3, h4, h5⟩ := h
    exact ⟨a, o, h1, h2.mono e.ff, e.keep h5 h3, h4, e.hh _ _ h5⟩
theorem Rel.grow (r : Rel K F0 H0 ea env σ F H) (e : Ext F H F1 H1) : Rel K F0 H0 ea env σ F1 H1 :=
  ⟨r.ext.trans e, r.len, fun i s x h1 h2 => (r.slot i s x h1 h2).grow e, r.apart⟩
theorem Rel.sub (r : Rel K F0 H0 ea env σ F H) : Same F H := r.ext.sub
theorem Rel.at (r : Rel K F0 H0 ea env σ F H) {i : Nat} {s : Slot} (h : env[i]? = some s) : ∃ x, σ[i]? = some x ∧ SlotOk K H0 F H ea s x := by
  have hi : i < σ.length := by rw [← r.len]; exact (List.getElem?_eq_some_iff.mp h).1
  exact ⟨σ[i], List.getElem?_eq_getElem hi, r.slot i s _ h (List.getElem?_eq_getElem hi)⟩
theorem Rel.val (r : Rel K F0 H0 ea env σ F H) {i : Nat} {d : D} (h : env[i]? = some (.val d)) : ∃ v, σ[i]? = some (some v) ∧ Rp K F v d := by
  obtain ⟨x, h1, v, h2, h3⟩ := r.at h
  subst h2
  exact ⟨v, h1, h3⟩
theorem Rel.own (r : Rel K F0 H0 ea env σ F H) {i : Nat} {xs : List D} (h : env[i]? = some (.own (.list xs))) : ∃ a vs ds, σ[i]? = some (some (.ref a)) ∧ PyData.list xs = .list ds ∧ F a = none ∧ H0 a = none ∧ H a = some (.lst vs) ∧ RpAll K F vs ds := by
  obtain ⟨x, h1, a, o, h2, ⟨vs, ho, hv⟩, h4, h5, h6⟩ := r.at h
  subst h2 ho
  exact ⟨a, vs, xs, h1, rfl, h4, h5, h6, hv⟩
theorem Rel.dic (r : Rel K F0 H0 ea env σ F H) {i : Nat} {t : Bool} {ps : List (D × D)} (h : env[i]? = some (.own (dV t ps))) : ∃ a o, σ[i]? = some (some (.ref a)) ∧ F a = none ∧ H0 a = none ∧ H a = some o ∧ DicO K F ea a t ps o := by
  obtain ⟨x, h1, a, o, h2, ho, h4, h5, h6⟩ := r.at h
  subst h2
  refine ⟨a, o, h1, h4, h5, h6, ?_⟩
  cases t with
  | false => exact ho
  | true => exact ho
end
/-! ### readings -/
section
variable (K : PySem.W.Frag) (F0 H0 : Hp) (ea : Ea) (W : WD)
def rdV (bor : Bool) (x : Env → R D) : TE := fun σ H Q => ∃ F env, Rel K F0 H0 ea env σ F H ∧ AnsW F H (x env) (fun d F' H' => ∀ v, Rb K bor F' H' v d → Q v H') fun c H' => W c σ H'
def rdG (x : Env → R D) : TE := fun σ H Q => ∃ F env, Rel K F0 H0 ea env σ F H ∧ AnsW F H (x env) (SG K H Q) fun c H' => W c σ H'
def rdT (x : Env → R Bool) : TT := fun σ H Q => ∃ F env, Rel K F0 H0 ea env σ F H ∧ AnsW F H (x env) (fun b _ H' => Q b H') fun c H' => W c σ H'
def rdA (bor : Bool) (x : Env → R (List D)) : TA := fun σ H Q => ∃ F env, Rel K F0 H0 ea env σ F H ∧ AnsW F H (x env) (fun ds F' H' => ∀ vs, Rbs K bor F' H' vs ds → Q vs H') fun c H' => W c σ H'
def rdO (x : Env → R (Option Int)) : TO := fun σ H Q => ∃ F env, Rel K F0 H0 ea env σ F H ∧ AnsW F H (x env) (fun o _ H' => Q o H') fun c H' => W c σ H'
def rdI (bor : Bool) (x : Env → R (List D)) : TI := fun σ H R' => ∃ F env, Rel K F0 H0 ea env σ F H ∧ AnsW F H (x env) (fun ds F' H' => ∀ J, Wk K J ds (Pk bor F' H') → R' J H') fun c H' => W c σ H'
end
theorem PEi {X : Cx} {x : Expr} {t t' : TE} (h : PE X x t) (k : ∀ σ H Q, t' σ H Q → t σ H Q) : PE X x t' := ⟨fun pins s σ H Q I q => h.run pins s σ H Q I (k σ H Q q)⟩
theorem PTi {X : Cx} {x : Expr} {t t' : TT} (h : PT X x t) (k : ∀ σ H Q, t' σ H Q → t σ H Q) : PT X x t' := ⟨fun pins s σ H Q I q => h.run pins s σ H Q I (k σ H Q q)⟩
theorem PWi {X : Cx} {x : Expr} {t t' : TT} (h : PW X x t) (k : ∀ σ H Q, t' σ H Q → t σ H Q) : PW X x t' := ⟨fun wh pins s σ H Q I q => h.run wh pins s σ H Q I (k σ H Q q)⟩
theorem PAi {X : Cx} {x : List Expr} {t t' : TA} (h : PA X x t) (k : ∀ σ H Q, t' σ H Q → t σ H Q) : PA X x t' := ⟨fun p pins s σ H Q I q => h.run p pins s σ H Q I (k σ H Q q)⟩
theorem POi {X : Cx} {x : Option Expr} {t t' : TO} (h : PO X x t) (k : ∀ σ H Q, t' σ H Q → t σ H Q) : PO X x t' := ⟨fun pins s σ H Q I q => h.run pins s σ H Q I (k σ H Q q)⟩
theorem PIi {X : Cx} {tg x : Expr} {t t' : TI} (h : PI X tg x t) (k : ∀ σ H Q, t' σ H Q → t σ H Q) : PI X tg x t' := ⟨fun pins s σ H Q I q => h.run pins s σ H Q I (k σ H Q q)⟩
theorem PTsi {X : Cx} {x : List Expr} {t t' : TT} (h : PTs X x t) (k : ∀ σ H Q, t' σ H Q → t σ H Q) : PTs X x t' := ⟨fun pins s σ H Q I q => h.run pins s σ H Q I (k σ H Q q)⟩
section
variable {X : Cx} {F0 H0 : Hp} {ea : Ea} {W : WD} {bor : Bool} {x a b c : Expr} {xa xb xc : Env → R D}
theorem pe_weak (h : PE X x (rdV X.K F0 H0 ea W false xa)) : PE X x (rdV X.K F0 H0 ea W bor xa) := PEi h fun σ H Q ⟨F, env, r, q⟩ =>
  ⟨F, env, r, q.imp fun d F' H' e k v hv => k v (Rb.of hv)⟩
theorem pe_ofG (h : PE X x (rdG X.K F0 H0 ea W xa)) : PE X x (rdV X.K F0 H0 ea W bor xa) := PEi h fun σ H Q ⟨F, env, r, q⟩ => by
  refine ⟨F, env, r, ?_⟩
  revert q
  cases xa env with
  | no => exact fun q => q
  | ex c => exact fun q => q
  | ok d =>
    refine fun q F' H' e => ⟨fun v _ hv => q F' H' e v (Rb.of hv), fun ds p vs ed hp ho hf hr => ?_⟩
    subst ed
    exact q (upd F' p (.lst vs)) H' (e.freeze hp ho hf) (.ref p) (Rb.of (.lst (LsX.of upd_same) (hr.mono (Fp.Same.upd hf))))
/-- the truth of a bool -/
theorem pt_ofV (h : PE X x (rdV X.K F0 H0 ea W false xa)) (he : ∀ whole, isTrue x X.env whole = (do let v ← whole; standAt x.pos; holding [v] (truthy v))) : PT X x (rdT X.K F0 H0 ea W fun env => (xa env).bind asB) :=
  PTi (pt_val h he) fun σ H Q ⟨F, env, r, q⟩ => ⟨F, env, r, q.bind fun d F' H' _ e k v hv => by
    have hv : Rp X.K F' v d := hv
    cases d with
    | bool b =>
      cases hv
      exact ⟨b, rfl, AnsW.here e.sub k⟩
    | _ => exact k.elim⟩
end
end Fp

set_option Elab.async false
set_option linter.all false
set_option maxRecDepth 100000
set_option maxHeartbeats 1000000
/-! Each term's step, by readings. -/
namespace Fp
open PySem PySem.Spec PyProof.Rows L2
/-! ### what is never refused -/
theorem noX_ok {α : Type} {a : α} : NoX (R.ok a) := fun _ e => nomatch e
theorem noX_no {α : Type} : NoX (R.no : R α) := fun _ e => nomatch e
theorem noX_bind {α β : Type} {x : R α} {f : α → R β} (h : NoX x) (k : ∀ a, NoX (f a)) : NoX (x.bind f) := by
  cases x with
  | ok a => exact k a
  | ex c => exact absurd rfl (h c)
  | no => exact noX_no
theorem noX_if {α : Type} {c : Prop} [Decidable c] {x y : R α} (h : NoX x) (k : NoX y) : NoX (if c then x else y) := by
  split
  · exact h
  · exact k
theorem noX_ofO {α : Type} {o : Option α} : NoX (ofO o) := by cases o <;> exact fun _ e => nomatch e
theorem noX_eq (a b : D) : NoX (dEq a b) := by unfold dEq; (first | exact noX_ok | exact noX_no | exact noX_if noX_ok noX_no | exact noX_ofO)
theorem noX_lt (a b : D) : NoX (dLt a b) := by unfold dLt; (first | exact noX_ok | exact noX_no | exact noX_if noX_ok noX_no | exact noX_ofO)
theorem noX_le (a b : D) : NoX (dLe a b) := by unfold dLe; (first | exact noX_ok | exact noX_no | exact noX_if noX_ok noX_no | exact noX_ofO)
theorem noX_in (a b : D) : NoX (dIn a b) := by
  unfold dIn
  split
  · (first | exact noX_ok | exact noX_no | exact noX_if noX_ok noX_no | exact noX_ofO)
  · (first | exact noX_ok | exact noX_no | exact noX_if noX_ok noX_no | exact noX_ofO)
  · split
    · split
      · (first | exact noX_ok | exact noX_no | exact noX_if noX_ok noX_no | exact noX_ofO)
      · (first | exact noX_ok | exact noX_no | exact noX_if noX_ok noX_no | exact noX_ofO)
    · (first | exact noX_ok | exact noX_no | exact noX_if noX_ok noX_no | exact noX_ofO)
  · (first | exact noX_ok | exact noX_no | exact noX_if noX_ok noX_no | exact noX_ofO)
theorem noX_cmp (o : Cop) (a b : D) : NoX (dCmp o a b) := by
  cases o
  · exact noX_eq _ _
  · exact noX_bind (noX_eq _ _) fun _ => noX_ok
  · exact noX_lt _ _
  · exact noX_lt _ _
  · exact noX_le _ _
  · exact noX_le _ _
  · exact noX_in _ _
  · exact noX_bind (noX_in _ _) fun _ => noX_ok
theorem noX_add (a b : D) : NoX (dAdd a b) := by unfold dAdd; split <;> (first | exact noX_ok | exact noX_no | exact noX_if noX_ok noX_no | exact noX_ofO)
theorem noX_mul (a b : D) : NoX (dMul a b) := by unfold dMul; split <;> (first | exact noX_ok | exact noX_no | exact noX_if noX_ok noX_no | exact noX_ofO)
theorem noX_bin (o : Bop) (a b : D) : NoX (dBin o a b) := by
  unfold dBin
  split
  · exact noX_add _ _
  · (first | exact noX_ok | exact noX_no | exact noX_if noX_ok noX_no | exact noX_ofO)
  · exact noX_mul _ _
  · (first | exact noX_ok | exact noX_no | exact noX_if noX_ok noX_no | exact noX_ofO)
  · (first | exact noX_ok | exact noX_no | exact noX_if noX_ok noX_no | exact noX_ofO)
  · (first | exact noX_ok | exact noX_no | exact noX_if noX_ok noX_no | exact noX_ofO)
  · (first | exact noX_ok | exact noX_no | exact noX_if noX_ok noX_no | exact noX_ofO)
theorem noX_neg (a : D) : NoX (dNeg a) := by unfold dNeg; split <;> (first | exact noX_ok | exact noX_no | exact noX_if noX_ok noX_no | exact noX_ofO)
theorem noX_idx (a b : D) : NoX (dIdx a b) := by
  unfold dIdx
  split
  · (first | exact noX_ok | exact noX_no | exact noX_if noX_ok noX_no | exact noX_ofO)
  · (first | exact noX_ok | exact noX_no | exact noX_if noX_ok noX_no | exact noX_ofO)
  · split
    · exact noX_bind noX_ofO fun _ => noX_ok
    · (first | exact noX_ok | exact noX_no | exact noX_if noX_ok noX_no | exact noX_ofO)
  · (first | exact noX_ok | exact noX_no | exact noX_if noX_ok noX_no | exact noX_ofO)
theorem noX_sli (a : D) (l h : Option Int) : NoX (dSli a l h) := by unfold dSli; split <;> (first | exact noX_ok | exact noX_no | exact noX_if noX_ok noX_no | exact noX_ofO)
theorem noX_rev (a : D) : NoX (dRev a) := by unfold dRev; split <;> (first | exact noX_ok | exact noX_no | exact noX_if noX_ok noX_no | exact noX_ofO)
theorem noX_isK (k : Kc) (a : D) : NoX (isK k a) := by unfold isK; split <;> (first | exact noX_ok | exact noX_no | exact noX_if noX_ok noX_no | exact noX_ofO)
theorem noX_asB (a : D) : NoX (asB a) := by unfold asB; split <;> (first | exact noX_ok | exact noX_no | exact noX_if noX_ok noX_no | exact noX_ofO)
theorem noX_blt (b : Blt) (ds : List D) : NoX (dBlt b ds) := by
  unfold dBlt
  split <;> first
    | (first | exact noX_ok | exact noX_no | exact noX_if noX_ok noX_no | exact noX_ofO)
    | exact noX_bind (boolsD_ex _) fun _ => noX_ok
    | exact noX_bind (intsD_ex _) fun _ => noX_ok
theorem noX_met (m : Met) (a : D) (ds : List D) : NoX (dMet m a ds) := by
  unfold dMet
  split
  · exact noX_if (noX_bind noX_ofO fun _ => noX_ok) noX_no
  · (first | exact noX_ok | exact noX_no | exact noX_if noX_ok noX_no | exact noX_ofO)
  · (first | exact noX_ok | exact noX_no | exact noX_if noX_ok noX_no | exact noX_ofO)
/-! ### the steps -/
section
variable {X : Cx} {F0 H0 : Hp} {ea : Ea} {W : WD} {bor : Bool} {x a b c : Expr} {xa xb xc : Env → R D} {pos : Pos}
theorem SG.grow {K : PySem.W.Frag} {H H1 : Hp} {Q : VK} {d : D} {F' H' : Hp} (s : Same H H1) (h : SG K H Q d F' H') : SG K H1 Q d F' H' :=
  ⟨h.1, fun ds p vs ed hp ho hf r => h.2 ds p vs ed (s.free hp) ho hf r⟩
theorem pe_bin {op : Operator} {t : D → D → R D} (o : OpR X (binaryOp op) (rOp2G X.K t)) (n : ∀ a b, NoX (t a b)) (ha : PE X a (rdV X.K F0 H0 ea W true xa)) (hb : PE X b (rdV X.K F0 H0 ea W true xb)) :
    PE X (.BinOp a op b pos) (rdG X.K F0 H0 ea W fun env => (xa env).bind fun u => (xb env).bind fun v => t u v) :=
  PEi (pe_op o ha hb) fun σ H Q ⟨F, env, r, q⟩ => ⟨F, env, r, q.bind fun u F1 H1 _ e1 q1 v1 r1 => ⟨F1, env, r.grow e1, q1.bind fun w F2 H2 _ e2 q2 v2 r2 =>
    ⟨F2, u, w, e2.sub, r1.b.grow e2, r2, q2.toG (n u w) fun p hp => e1.hh.free (e2.hh.free hp)⟩⟩⟩
theorem pe_cmpD {op : CmpOp} {t : D → D → R Bool} (o : OpR X (compareOp op) (rCmp2 X.K t)) (n : ∀ a b, NoX (t a b)) (ha : PE X a (rdV X.K F0 H0 ea W true xa)) (hb : PE X b (rdV X.K F0 H0 ea W true xb)) (hs : shp b = true) :
    PE X (.Compare a [op] [b] pos) (rdV X.K F0 H0 ea W false fun env => (xa env).bind fun u => (xb env).bind fun v => (t u v).bind fun k => .ok (.bool k)) :=
  PEi (pe_cmpR o ha hb (shp_mark hs op)) fun σ H Q ⟨F, env, r, q⟩ => ⟨F, env, r, q.bind fun u F1 H1 _ e1 q1 v1 r1 => ⟨F1, env, r.grow e1, q1.bind fun w F2 H2 _ e2 q2 v2 r2 =>
    ⟨F2, u, w, e2.sub, r1.b.grow e2, r2, (q2.bind fun k F3 H3 _ e3 q3 => AnsW.here e3.sub q3 _ (Rp.bl k) : AnsW F2 H2 (t u w) (fun k _ H3 => Q (.bl k) H3) _).toT (n u w)⟩⟩⟩
theorem pt_cmpD {op : CmpOp} {t : D → D → R Bool} (o : OpR X (compareOp op) (rCmp2 X.K t)) (n : ∀ a b, NoX (t a b)) (ha : PE X a (rdV X.K F0 H0 ea W true xa)) (hb : PE X b (rdV X.K F0 H0 ea W true xb)) (hs : shp b = true) :
    PT X (.Compare a [op] [b] pos) (rdT X.K F0 H0 ea W fun env => ((xa env).bind fun u => (xb env).bind fun v => (t u v).bind fun k => .ok (.bool k)).bind asB) :=
  PTi (pt_cmpR o ha hb (shp_mark hs op)) fun σ H Q ⟨F, env, r, q⟩ => by
    have e : (((xa env).bind fun u => (xb env).bind fun v => (t u v).bind fun k => R.ok (.bool k)).bind asB) = (xa env).bind fun u => (xb env).bind fun v => t u v := by
      cases xa env with
      | ok u =>
        simp only [R.bind_ok]
        cases xb env with
        | ok v =>
          simp only [R.bind_ok]
          cases t u v <;> rfl
        | _ => rfl
      | _ => rfl
    refine ⟨F, env, r, ?_⟩
    dsimp only at q
    rw [e] at q
    exact q.bind fun u F1 H1 _ e1 q1 v1 r1 => ⟨F1, env, r.grow e1, q1.bind fun w F2 H2 _ e2 q2 v2 r2 =>
      ⟨F2, u, w, e2.sub, r1.b.grow e2, r2, (q2.imp fun k F3 H3 e3 q3 => ⟨k, rfl, q3⟩ : AnsW F2 H2 (t u w) (fun k _ H3 => ∃ k', V.bl k = .bl k' ∧ Q k' H3) _).toT (n u w)⟩⟩
theorem pe_neg (ha : PE X a (rdV X.K F0 H0 ea W false xa)) : PE X (.UnaryOp .USub a pos) (rdV X.K F0 H0 ea W false fun env => (xa env).bind dNeg) :=
  PEi (pe_un un_neg ha) fun σ H Q ⟨F, env, r, q⟩ => ⟨F, env, r, q.bind fun u F1 H1 _ e1 q1 v1 r1 => by
    have r1 : Rp X.K F1 v1 u := r1
    cases u with
    | int i =>
      cases r1
      exact ⟨i, rfl, AnsW.here e1.sub q1 _ (.int _)⟩
    | _ => exact q1.elim⟩
theorem pe_idx (ha : PE X a (rdV X.K F0 H0 ea W true xa)) (hb : PE X b (rdV X.K F0 H0 ea W false xb)) (hs : shp b = true) :
    PE X (.Subscript a b pos) (rdV X.K F0 H0 ea W false fun env => (xa env).bind fun u => (xb env).bind fun v => dIdx u v) :=
  PEi (pe_ix ixd ha hb (shp_ix hs)) fun σ H Q ⟨F, env, r, q⟩ => ⟨F, env, r, q.bind fun u F1 H1 _ e1 q1 v1 r1 => ⟨F1, env, r.grow e1, q1.bind fun w F2 H2 _ e2 q2 v2 r2 =>
    ⟨F2, u, w, e2.sub, r1.b.grow e2, r2.b, q2.toA (noX_idx u w)⟩⟩⟩
theorem po_non : PO X none (rdO X.K F0 H0 ea W fun _ => .ok none) := POi po_none fun σ H Q ⟨F, env, r, q⟩ => AnsW.here r.sub q
theorem po_som (ha : PE X a (rdV X.K F0 H0 ea W false xa)) : PO X (some a) (rdO X.K F0 H0 ea W fun env => (xa env).bind partO) :=
  POi (po_some ha) fun σ H Q ⟨F, env, r, q⟩ => ⟨F, env, r, q.bind fun u F1 H1 _ e1 q1 v1 r1 => by
    have r1 : Rp X.K F1 v1 u := r1
    cases u with
    | int i =>
      cases r1
      exact ⟨i, rfl, AnsW.here e1.sub q1⟩
    | _ => exact q1.elim⟩
theorem pe_sli {lo hi : Option Expr} {xl xh : Env → R (Option Int)} {p2 : Pos} (ha : PE X a (rdV X.K F0 H0 ea W true xa)) (hl : PO X lo (rdO X.K F0 H0 ea W xl)) (hh : PO X hi (rdO X.K F0 H0 ea W xh)) :
    PE X (.Subscript a (.Slice lo hi none p2) pos) (rdG X.K F0 H0 ea W fun env => (xa env).bind fun u => (xl env).bind fun l => (xh env).bind fun h => dSli u l h) :=
  PEi (pe_slice sld ha hl hh) fun σ H Q ⟨F, env, r, q⟩ => ⟨F, env, r, q.bind fun u F1 H1 _ e1 q1 v1 r1 => ⟨F1, env, r.grow e1, q1.bind fun l F2 H2 _ e2 q2 => ⟨F2, env, r.grow (e1.trans e2), q2.bind fun h F3 H3 _ e3 q3 =>
    ⟨F3, u, e3.sub, (r1.b.grow e2).grow e3, q3.toG (noX_sli u l h) fun p hp => e1.hh.free (e2.hh.free (e3.hh.free hp))⟩⟩⟩⟩
theorem pe_rev {k : Nat} {p1 p2 p3 : Pos} (ha : PE X a (rdV X.K F0 H0 ea W true xa)) :
    PE X (.Subscript a (.Slice none none (some (.UnaryOp .USub (.Constant (.int 1) k p1) p2)) p3) pos) (rdG X.K F0 H0 ea W fun env => (xa env).bind dRev) :=
  PEi (pe_revD (k1 := 0) ha) fun σ H Q ⟨F, env, r, q⟩ => ⟨F, env, r, q.bind fun u F1 H1 _ e1 q1 v1 r1 =>
    ⟨F1, u, e1.sub, r1.b, q1.toG (noX_rev u) fun p hp => e1.hh.free hp⟩⟩
theorem pe_isk {n : Bool} {k : Kc} {op : CmpOp} {cn : Const} {kk : Nat} {p1 : Pos} (ho : op = if n = true then .IsNot else .Is) (hk : kcIs k cn = true) (ha : PE X a (rdV X.K F0 H0 ea W true xa)) :
    PE X (.Compare a [op] [.Constant cn kk p1] pos) (rdV X.K F0 H0 ea W false fun env => (xa env).bind fun u => (isK k u).bind fun b => .ok (.bool (n != b))) ∧
    PT X (.Compare a [op] [.Constant cn kk p1] pos) (rdT X.K F0 H0 ea W fun env => ((xa env).bind fun u => (isK k u).bind fun b => .ok (.bool (n != b))).bind asB) := by
  have hc : PE X (.Constant cn kk p1) (tC (kcV k)) := by
    cases k <;> cases cn <;> first
      | exact pe_non
      | (cases hk; done)
      | skip
    · rename_i b; cases b with
      | true => exact pe_bl
      | false => cases hk
    · rename_i b; cases b with
      | false => exact pe_bl
      | true => cases hk
  subst ho
  refine ⟨PEi (pe_cmpR (op_isK n k) ha hc rfl) fun σ H Q ⟨F, env, r, q⟩ => ⟨F, env, r, q.bind fun u F1 H1 _ e1 q1 v1 r1 => ?_⟩, PTi (pt_cmpR (op_isK n k) ha hc rfl) fun σ H Q ⟨F, env, r, q⟩ => ⟨F, env, r, ?_⟩⟩
  · refine ⟨rfl, F1, u, e1.sub, r1.b, AnsW.toT (Ex := fun c H' => W c σ H') ?_ (noX_bind (noX_isK k u) fun _ => noX_ok)⟩
    revert q1
    cases isK k u with
    | ok b => exact fun q1 F' H' e => q1 F' H' e _ (Rp.bl _)
    | ex c => exact fun q => q
    | no => exact fun q => q
  · have e : (((xa env).bind fun u => (isK k u).bind fun b => R.ok (.bool (n != b))).bind asB) = (xa env).bind fun u => (isK k u).bind fun b => .ok (n != b) := by
      cases xa env with
      | ok u =>
        simp only [R.bind_ok]
        cases isK k u <;> rfl
      | _ => rfl
    dsimp only at q
    rw [e] at q
    exact q.bind fun u F1 H1 _ e1 q1 v1 r1 => ⟨rfl, F1, u, e1.sub, r1.b, (q1.imp fun b F' H' e' q2 => ⟨b, rfl, q2⟩ : AnsW F1 H1 _ (fun b _ H' => ∃ k', V.bl b = .bl k' ∧ Q k' H') _).toT (noX_bind (noX_isK k u) fun _ => noX_ok)⟩
/-! ### and, or, not, if -/
theorem bindB {x : R D} {f : Bool → R D} : (x.bind fun u => (asB u).bind f) = (x.bind asB).bind f := by
  cases x <;> rfl
theorem pe_andD {r : List Expr} (ha : PE X a (rdV X.K F0 H0 ea W false xa)) (hb : PE X (.BoolOp .And (b :: r) pos) (rdV X.K F0 H0 ea W false xb)) :
    PE X (.BoolOp .And (a :: b :: r) pos) (rdV X.K F0 H0 ea W false fun env => (xa env).bind fun u => (asB u).bind fun k => if k = true then xb env else .ok (.bool false)) :=
  PEi (pe_and ha hb) fun σ H Q ⟨F, env, r, q⟩ => ⟨F, env, r, q.bind fun u F1 H1 _ e1 q1 v1 r1 => by
    have r1 : Rp X.K F1 v1 u := r1
    cases u with
    | bool k =>
      cases r1
      refine ⟨k, rfl, ?_⟩
      cases k with
      | true => exact ⟨F1, env, r.grow e1, q1⟩
      | false => exact AnsW.here e1.sub q1 _ (Rp.bl false)
    | _ => exact q1.elim⟩
theorem pe_orD {r : List Expr} (ha : PE X a (rdV X.K F0 H0 ea W false xa)) (hb : PE X (.BoolOp .Or (b :: r) pos) (rdV X.K F0 H0 ea W false xb)) :
    PE X (.BoolOp .Or (a :: b :: r) pos) (rdV X.K F0 H0 ea W false fun env => (xa env).bind fun u => (asB u).bind fun k => if k = true then .ok (.bool true) else xb env) :=
  PEi (pe_or ha hb) fun σ H Q ⟨F, env, r, q⟩ => ⟨F, env, r, q.bind fun u F1 H1 _ e1 q1 v1 r1 => by
    have r1 : Rp X.K F1 v1 u := r1
    cases u with
    | bool k =>
      cases r1
      refine ⟨k, rfl, ?_⟩
      cases k with
      | false => exact ⟨F1, env, r.grow e1, q1⟩
      | true => exact AnsW.here e1.sub q1 _ (Rp.bl true)
    | _ => exact q1.elim⟩
theorem pe_notD (ha : PE X a (rdV X.K F0 H0 ea W false xa)) : PE X (.UnaryOp .Not a pos) (rdV X.K F0 H0 ea W false fun env => (xa env).bind fun u => (asB u).bind fun k => .ok (.bool (!k))) :=
  PEi (pe_not ha) fun σ H Q ⟨F, env, r, q⟩ => ⟨F, env, r, q.bind fun u F1 H1 _ e1 q1 v1 r1 => by
    have r1 : Rp X.K F1 v1 u := r1
    cases u with
    | bool k =>
      cases r1
      exact ⟨k, rfl, AnsW.here e1.sub q1 _ (Rp.bl _)⟩
    | _ => exact q1.elim⟩
variable {ta tb tc : Env → R Bool}
theorem pw_andD {r : List Expr} (ha : PT X a (rdT X.K F0 H0 ea W fun env => (xa env).bind asB)) (hb : PW X (.BoolOp .And (b :: r) pos) (rdT X.K F0 H0 ea W fun env => (xb env).bind asB)) :
    PW X (.BoolOp .And (a :: b :: r) pos) (rdT X.K F0 H0 ea W fun env => ((xa env).bind fun u => (asB u).bind fun k => if k = true then xb env else .ok (.bool false)).bind asB) :=
  PWi (pw_and ha hb) fun σ H Q ⟨F, env, r, q⟩ => ⟨F, env, r, by
    have e : (((xa env).bind fun u => (asB u).bind fun k => if k = true then xb env else R.ok (.bool false)).bind asB) = ((xa env).bind asB).bind fun k => if k = true then (xb env).bind asB else .ok false := by
      rw [bindB]
      cases (xa env).bind asB with
      | ok k => cases k <;> rfl
      | _ => rfl
    dsimp only at q
    rw [e] at q
    exact q.bind fun k F1 H1 _ e1 q1 => by
      cases k with
      | true => exact ⟨F1, env, r.grow e1, q1⟩
      | false => exact AnsW.here e1.sub q1⟩
theorem pw_orD {r : List Expr} (ha : PT X a (rdT X.K F0 H0 ea W fun env => (xa env).bind asB)) (hb : PW X (.BoolOp .Or (b :: r) pos) (rdT X.K F0 H0 ea W fun env => (xb env).bind asB)) :
    PW X (.BoolOp .Or (a :: b :: r) pos) (rdT X.K F0 H0 ea W fun env => ((xa env).bind fun u => (asB u).bind fun k => if k = true then .ok (.bool true) else xb env).bind asB) :=
  PWi (pw_or ha hb) fun σ H Q ⟨F, env, r, q⟩ => ⟨F, env, r, by
    have e : (((xa env).bind fun u => (asB u).bind fun k => if k = true then R.ok (.bool true) else xb env).bind asB) = ((xa env).bind asB).bind fun k => if k = true then .ok true else (xb env).bind asB := by
      rw [bindB]
      cases (xa env).bind asB with
      | ok k => cases k <;> rfl
      | _ => rfl
    dsimp only at q
    rw [e] at q
    exact q.bind fun k F1 H1 _ e1 q1 => by
      cases k with
      | false => exact ⟨F1, env, r.grow e1, q1⟩
      | true => exact AnsW.here e1.sub q1⟩
theorem pt_notD (ha : PT X a (rdT X.K F0 H0 ea W fun env => (xa env).bind asB)) :
    PT X (.UnaryOp .Not a pos) (rdT X.K F0 H0 ea W fun env => ((xa env).bind fun u => (asB u).bind fun k => .ok (.bool (!k))).bind asB) :=
  PTi (pt_not ha) fun σ H Q ⟨F, env, r, q⟩ => ⟨F, env, r, by
    have e : (((xa env).bind fun u => (asB u).bind fun k => R.ok (.bool (!k))).bind asB) = ((xa env).bind asB).bind fun k => .ok (!k) := by
      rw [bindB]
      cases (xa env).bind asB <;> rfl
    dsimp only at q
    rw [e] at q
    exact q.bind fun k F1 H1 _ e1 q1 => AnsW.here e1.sub q1⟩
theorem pe_iteD (hc : PT X c (rdT X.K F0 H0 ea W fun env => (xc env).bind asB)) (ha : PE X a (rdV X.K F0 H0 ea W false xa)) (hb : PE X b (rdV X.K F0 H0 ea W false xb)) :
    PE X (.IfExp c a b pos) (rdV X.K F0 H0 ea W false fun env => (xc env).bind fun u => (asB u).bind fun k => if k = true then xa env else xb env) :=
  PEi (pe_ifExp hc ha hb) fun σ H Q ⟨F, env, r, q⟩ => ⟨F, env, r, by
    dsimp only at q
    rw [bindB] at q
    exact q.bind fun k F1 H1 _ e1 q1 => by
      cases k with
      | true => exact ⟨F1, env, r.grow e1, q1⟩
      | false => exact ⟨F1, env, r.grow e1, q1⟩⟩
theorem pt_iteD (hc : PT X c (rdT X.K F0 H0 ea W fun env => (xc env).bind asB)) (ha : PT X a (rdT X.K F0 H0 ea W fun env => (xa env).bind asB)) (hb : PT X b (rdT X.K F0 H0 ea W fun env => (xb env).bind asB)) :
    PT X (.IfExp c a b pos) (rdT X.K F0 H0 ea W fun env => ((xc env).bind fun u => (asB u).bind fun k => if k = true then xa env else xb env).bind asB) := by
  refine ⟨fun pins s σ H Q I ⟨F, env, r, q⟩ => ?_⟩
  dsimp only at q
  rw [bindB] at q
  have e : ((((xc env).bind asB).bind fun k => if k = true then xa env else xb env).bind asB) = ((xc env).bind asB).bind fun k => if k = true then (xa env).bind asB else (xb env).bind asB := by
    cases (xc env).bind asB with
    | ok k => cases k <;> rfl
    | _ => rfl
  rw [e] at q
  refine isTrue_IfExp (thn (hc.run pins s σ H (fun k H1 => if k = true then rdT X.K F0 H0 ea W (fun env => (xa env).bind asB) σ H1 Q else rdT X.K F0 H0 ea W (fun env => (xb env).bind asB) σ H1 Q) I ⟨F, env, r, q.bind fun k F1 H1 _ e1 q1 => ?_⟩) fun k s1 ⟨H1, I1, q1⟩ => ?_)
  · cases k with
    | true => exact ⟨F1, env, r.grow e1, q1⟩
    | false => exact ⟨F1, env, r.grow e1, q1⟩
  · cases k with
    | true => exact ha.run pins s1 σ H1 Q I1 q1
    | false => exact hb.run pins s1 σ H1 Q I1 q1
/-! ### a <= b <= c -/
theorem mark2 (hs : shp c = true) : lastMarks [CmpOp.LtE, CmpOp.LtE] [b, c] = false := shp_mark hs _
theorem pe_chnD (hr : Rm X) (hs : shp c = true) (ha : PE X a (rdV X.K F0 H0 ea W false xa)) (hb : PE X b (rdV X.K F0 H0 ea W false xb)) (hc : PE X c (rdV X.K F0 H0 ea W false xc)) :
    PE X (.Compare a [.LtE, .LtE] [b, c] pos) (rdV X.K F0 H0 ea W false fun env => (xa env).bind fun u => (xb env).bind fun v => (dLe u v).bind fun k => if k = true then (xc env).bind fun z => (dLe v z).bind fun k => .ok (.bool k) else .ok (.bool false)) :=
  PEi (pe_chain (opc_le hr) (opc_le hr) ha hb hc (mark2 hs)) fun σ H Q ⟨F, env, r, q⟩ => ⟨F, env, r, q.bind fun u F1 H1 _ e1 q1 v1 r1 => ⟨F1, env, r.grow e1, q1.bind fun w F2 H2 _ e2 q2 v2 r2 =>
    ⟨F2, u, w, e2.sub, r1.b.grow e2, r2.b, (q2.bind fun k F3 H3 _ e3 q3 => ⟨k, rfl, by
      cases k with
      | false => exact AnsW.here e3.sub q3 _ (Rp.bl false)
      | true => exact ⟨F3, env, r.grow ((e1.trans e2).trans e3), AnsW.bind q3 fun z F4 H4 _ e4 q4 v4 r4 => ⟨F4, w, z, e4.sub, (r2.b.grow e3).grow e4, r4.b,
          (q4.bind fun k F5 H5 _ e5 q5 => AnsW.here e5.sub q5 _ (Rp.bl k) : AnsW F4 H4 (dLe w z) (fun k _ H5 => Q (.bl k) H5) _).toT (noX_le _ _)⟩⟩⟩ : AnsW F2 H2 (dLe u w) (fun k _ H3 => ∃ k', V.bl k = .bl k' ∧ _) _).toT (noX_le _ _)⟩⟩⟩
theorem pt_chnD (hr : Rm X) (hs : shp c = true) (ha : PE X a (rdV X.K F0 H0 ea W false xa)) (hb : PE X b (rdV X.K F0 H0 ea W false xb)) (hc : PE X c (rdV X.K F0 H0 ea W false xc)) :
    PT X (.Compare a [.LtE, .LtE] [b, c] pos) (rdT X.K F0 H0 ea W fun env => ((xa env).bind fun u => (xb env).bind fun v => (dLe u v).bind fun k => if k = true then (xc env).bind fun z => (dLe v z).bind fun k => .ok (.bool k) else .ok (.bool false)).bind asB) :=
  PTi (pt_chain (opc_le hr) (opc_le hr) ha hb hc (mark2 hs)) fun σ H Q ⟨F, env, r, q⟩ => by
    have e : (((xa env).bind fun u => (xb env).bind fun v => (dLe u v).bind fun k => if k = true then (xc env).bind fun z => (dLe v z).bind fun k => R.ok (.bool k) else .ok (.bool false)).bind asB) =
        (xa env).bind fun u => (xb env).bind fun v => (dLe u v).bind fun k => if k = true then (xc env).bind fun z => dLe v z else .ok false := by
      cases xa env with
      | ok u =>
        simp only [R.bind_ok]
        cases xb env with
        | ok v =>
          simp only [R.bind_ok]
          cases dLe u v with
          | ok k =>
            cases k with
            | false => rfl
            | true =>
              simp only [R.bind_ok, if_true]
              cases xc env with
              | ok z =>
                simp only [R.bind_ok]
                cases dLe v z <;> rfl
              | _ => rfl
          | _ => rfl
        | _ => rfl
      | _ => rfl
    refine ⟨F, env, r, ?_⟩
    dsimp only at q
    rw [e] at q
    exact q.bind fun u F1 H1 _ e1 q1 v1 r1 => ⟨F1, env, r.grow e1, q1.bind fun w F2 H2 _ e2 q2 v2 r2 =>
      ⟨F2, u, w, e2.sub, r1.b.grow e2, r2.b, (q2.bind fun k F3 H3 _ e3 q3 => ⟨k, rfl, by
        cases k with
        | false => exact ⟨false, rfl, AnsW.here e3.sub q3⟩
        | true => exact ⟨F3, env, r.grow ((e1.trans e2).trans e3), AnsW.bind q3 fun z F4 H4 _ e4 q4 v4 r4 => ⟨F4, w, z, e4.sub, (r2.b.grow e3).grow e4, r4.b,
            (q4.imp fun k F5 H5 e5 q5 => ⟨k, rfl, q5⟩ : AnsW F4 H4 (dLe w z) (fun k _ H5 => ∃ k', V.bl k = .bl k' ∧ Q k' H5) _).toT (noX_le _ _)⟩⟩⟩ : AnsW F2 H2 (dLe u w) (fun k _ H3 => ∃ k', V.bl k = .bl k' ∧ _) _).toT (noX_le _ _)⟩⟩
/-! ### argument lists, displays -/
theorem pa_nilD : PA X [] (rdA X.K F0 H0 ea W bor fun _ => .ok []) := PAi pa_nil fun σ H Q ⟨F, env, r, q⟩ => AnsW.here r.sub q _ .nil
theorem Rbs.grow {K : PySem.W.Frag} {F H F1 H1 : Hp} {vs : List V} {ds : List D} (e : Ext F H F1 H1) (h : Rbs K bor F H vs ds) : Rbs K bor F1 H1 vs ds := by
  unfold Rbs at h ⊢
  split at h
  · rename_i hb; rw [if_pos hb]; exact RpBs.grow e h
  · rename_i hb; rw [if_neg hb]; exact h.mono e.ff
theorem pa_consD {es : List Expr} {xr : Env → R (List D)} (hs : shp a = true) (ha : PE X a (rdV X.K F0 H0 ea W bor xa)) (hr : PA X es (rdA X.K F0 H0 ea W bor xr)) :
    PA X (a :: es) (rdA X.K F0 H0 ea W bor fun env => (xa env).bind fun u => (xr env).bind fun us => .ok (u :: us)) :=
  PAi (pa_cons ha hr (shp_star hs es)) fun σ H Q ⟨F, env, r, q⟩ => ⟨F, env, r, q.bind fun u F1 H1 _ e1 q1 v1 r1 => ⟨F1, env, r.grow e1, q1.bind fun us F2 H2 _ e2 q2 vs r2 =>
    AnsW.here e2.sub q2 _ (.cons (r1.grow e2) r2)⟩⟩
/-- (a, b, ..): its very object is known -/
def tTupX (t : TA) : TE := fun σ H Q => t σ H fun xs H1 => xs.length ≤ sizeLine ∧ ∀ (p : Addr) (ob : Obj), IsTO ob → H1 p = none → Q (.ref p) (upd H1 p (.frz ob (.tup xs)))
theorem pe_tupX {es : List Expr} {k : Nat} {t : TA} (h : PA X es t) : PE X (.Tuple es k pos) (tTupX t) := by
  refine ⟨fun pins s σ H Q I hq => wpAny_Tuple_spliced (thn (h.run pos pins s σ H _ I hq) fun us s1 ⟨xs, H1, I1, r, z, q⟩ => ⟨?_, ?_⟩)⟩
  · rw [← r.length]
    exact z
  · obtain ⟨n1, I2⟩ := lay_tup (t' := s1.toks) I1 (fun _ _ e => e) z r
    exact ⟨.ref s1.heap.objs.size, _, I2, rfl, q _ _ (isTO _) n1⟩
theorem pe_tupD {es : List Expr} {xr : Env → R (List D)} {k : Nat} (h : PA X es (rdA X.K F0 H0 ea W false xr)) :
    PE X (.Tuple es k pos) (rdV X.K F0 H0 ea W false fun env => (xr env).bind fun ds => if ds.length ≤ 16777216 then .ok (.tuple ds) else .no) :=
  PEi (pe_tupX h) fun σ H Q ⟨F, env, r, q⟩ => ⟨F, env, r, q.bind fun ds F1 H1 _ e1 q1 vs r1 => by
    have r1 : RpAll X.K F1 vs ds := r1
    split at q1
    · rename_i hz
      refine ⟨by rw [sz_eq, r1.length]; exact hz, fun p ob hd hp => ?_⟩
      have e2 := (Ext.refl e1.sub).frozen (p := p) (o := .frz ob (.tup vs)) hp
      exact q1 _ _ e2 _ (Rp.tup (TpX.new hd) (r1.mono e2.ff))
    · exact q1.elim⟩
theorem pe_lstD {es : List Expr} {xr : Env → R (List D)} (h : PA X es (rdA X.K F0 H0 ea W false xr)) :
    PE X (.List es pos) (rdG X.K F0 H0 ea W fun env => (xr env).bind fun ds => if ds.length ≤ 16777216 then .ok (.list ds) else .no) :=
  PEi (pe_lst h) fun σ H Q ⟨F, env, r, q⟩ => ⟨F, env, r, q.bind fun ds F1 H1 _ e1 q1 vs r1 => by
    have r1 : RpAll X.K F1 vs ds := r1
    split at q1
    · rename_i hz
      refine ⟨by rw [sz_eq, r1.length]; exact hz, fun p hp => ?_⟩
      exact (q1 _ _ ((Ext.refl e1.sub).loose hp)).2 ds p vs rfl (e1.hh.free hp) upd_same (e1.sub.free hp) r1
    · exact q1.elim⟩
/-! ### built-in calls -/
theorem rbl_of {bl : Blt} {xr : Env → R (List D)} {t : TA} (hb : bl ≠ .min1) : ∀ σ H Q, rdG X.K F0 H0 ea W (fun env => (xr env).bind (dBlt bl)) σ H Q → tCB (rBl X.K bl) (rdA X.K F0 H0 ea W true xr) σ H Q := fun σ H Q ⟨F, env, r, q⟩ =>
  ⟨F, env, r, q.bind fun ds F1 H1 _ e1 q1 vs r1 => ⟨F1, ds, e1.sub, r1, by
    have q2 := q1.toG (noX_blt bl ds) fun p hp => e1.hh.free hp
    cases bl <;> first
      | exact q2
      | exact absurd rfl hb⟩⟩
theorem rbl_min {xr : Env → R (List D)} {t : TA} : ∀ σ H Q, rdV X.K F0 H0 ea W false (fun env => (xr env).bind (dBlt .min1)) σ H Q → tCB (rBl X.K .min1) (rdA X.K F0 H0 ea W true xr) σ H Q := fun σ H Q ⟨F, env, r, q⟩ =>
  ⟨F, env, r, q.bind fun ds F1 H1 _ e1 q1 vs r1 => ⟨F1, ds, e1.sub, r1, q1.toA (noX_blt .min1 ds)⟩⟩
end
end Fp

set_option Elab.async false
set_option linter.all false
set_option maxRecDepth 100000
set_option maxHeartbeats 1000000
/-! Calls, isinstance, methods; targets; what is walked; comprehensions. -/
namespace Fp
open PySem PySem.Spec PyProof.Rows L2
section
variable {X : Cx} {F0 H0 : Hp} {ea : Ea} {W : WD} {bor : Bool} {x a b c : Expr} {xa xb xc : Env → R D} {pos : Pos}
/-! ### isinstance(x, T) -/
def rIsi (K : PySem.W.Frag) (t : Ty) (n : String) : List V → Hp → VK → Prop := fun xs H Q => ∃ F v d, xs = [v, .ty n] ∧ Same F H ∧ RpB K F H v d ∧ Q (.bl (isTy t d)) H
def tyS : Ty → String
  | .int => "int"
  | .bool => "bool"
  | .str => "str"
  | .tuple => "tuple"
  | .list => "list"
theorem call_isi (t : Ty) : CallR X (.builtin "isinstance") (rIsi X.K t (tyS t)) := by
  intro pins s σ H xs us Q I r ⟨F, v, d, ex, hs, hv, q⟩
  subst ex
  obtain ⟨u1, u2, rfl, r1, r2⟩ := Vals.two r
  cases (show u2 = Value.type (tyS t) from r2)
  obtain ⟨as, rd⟩ := Dp.reads I d v u1 (hv.dp hs) r1
  have := isiTy (prog := X.prog) (w := X.w) (A := X.A) (E := X.xe) t rd (Q := EP X pins σ Q) fun tk => ⟨.bl _, H, I.tok tk, rfl, q⟩
  cases t <;> exact this
theorem boot_ty (t : Ty) : bootBuiltins (tyNm t) = some (.type (tyS t)) := by cases t <;> first | rfl | decide
theorem boot_isi : bootBuiltins ("isinstance" : Str) = some (.builtin "isinstance") := by first | rfl | decide
theorem pe_isiD {t : Ty} {p p2 : Pos} (hg : Gl X "isinstance") (hm : X.mg "isinstance" = none) (hg2 : Gl X (tyNm t)) (hm2 : X.mg (tyNm t) = none) (hs : shp a = true) (ha : PE X a (rdV X.K F0 H0 ea W true xa)) :
    PE X (.Call (.Name "isinstance" p) [a, .Name (tyNm t) p2] [] pos) (rdV X.K F0 H0 ea W false fun env => (xa env).bind fun u => .ok (.bool (isTy t u))) := by
  have h2 : PE X (.Name (tyNm t) p2) (tC (.ty (tyS t))) := pe_bltn hg2 hm2 (boot_ty t) rfl (by cases t <;> decide) (by cases t <;> decide)
  refine PEi (pe_callB (call_isi t) hg hm boot_isi (pa_cons ha (pa_cons h2 pa_nil) (shp_star hs _)) (by decide) (by decide) (shp_star hs _) rfl) fun σ H Q ⟨F, env, r, q⟩ => ⟨F, env, r, q.bind fun u F1 H1 _ e1 q1 v1 r1 => ?_⟩
  exact ⟨F1, v1, u, rfl, e1.sub, r1.b, AnsW.here e1.sub q1 _ (Rp.bl _)⟩
/-! ### xs.index(y), xs.count(y) -/
theorem RpBs.ofAll {K : PySem.W.Frag} {F H : Hp} : ∀ {vs : List V} {ds : List D}, RpAll K F vs ds → RpBs K F H vs ds
  | _, _, .nil => .nil
  | _, _, .cons h t => .cons (.inl h) (RpBs.ofAll t)
theorem pe_metL {m : Met} {apos : Pos} {xr : Env → R (List D)} (hr : Rm X) (hl : (apos.endLine == pos.line) = true) (hs : shp a = true) (hs2 : shp b = true) (ha : PE X a (rdV X.K F0 H0 ea W true xa)) (hb : PA X [b] (rdA X.K F0 H0 ea W false xr)) :
    PE X (.Call (.Attribute a (metNm m) apos) [b] [] pos) (rdV X.K F0 H0 ea W false fun env => (xa env).bind fun u => (sqL u).bind fun xs => (xr env).bind fun vs => dMet m (.list xs) vs) := by
  have hfew : ((backTo pos (starEach (b :: []) X.env)).all (fun x => !x.1) && (backToKw pos (keywordEach [] X.env)).all (fun x => x.1.isSome)
      && decide ((b :: ([] : List Expr)).length + ([] : List Keyword).length + (if ([] : List Keyword).isEmpty then 0 else 1) < 30)) = true := by
    rw [shp_star hs2]
    rfl
  have hp : PE X (.Call (.Attribute a (metNm m) apos) [b] [] pos) (tBM X.K "list" (rMet X.K m) (rdV X.K F0 H0 ea W true xa) (rdA X.K F0 H0 ea W false xr)) := by
    cases m with
    | index => exact pe_bm PySem.F.plainAttrs_list PySem.F.slot_list_index PySem.F.type_list_index (mt_met hr .index) ha hb (shp_base hs _) hfew hl (shp_star hs2 _) rfl
    | count => exact pe_bm PySem.F.plainAttrs_list PySem.F.slot_list_count PySem.F.type_list_count (mt_met hr .count) ha hb (shp_base hs _) hfew hl (shp_star hs2 _) rfl
  refine PEi hp fun σ H Q ⟨F, env, r, q⟩ => ⟨F, env, r, q.bind fun u F1 H1 _ e1 q1 v1 r1 => ?_⟩
  cases u with
  | list xs =>
    obtain ⟨p, vs, rfl, h1, hr1⟩ := r1.b.list e1.sub
    refine ⟨.inl ⟨rfl, vs, h1.sq⟩, F1, env, r.grow e1, ?_⟩
    have q1 : AnsW F1 H1 ((xr env).bind fun vs => dMet m (.list xs) vs) (fun d F' H' => ∀ v, Rb X.K false F' H' v d → Q v H') fun c H' => W c σ H' := q1
    exact q1.bind fun ds F2 H2 _ e2 q2 v2 r2 => ⟨F2, .list xs, ds, e2.sub, r1.b.grow e2, RpBs.ofAll r2, q2.toA (noX_met m _ _)⟩
  | _ => exact q1.elim
theorem TpX.obj0 {pins : List (Addr × Obj)} {σ : L2.St} {H : Hp} {s : Shared} (I : L2.Inv X pins σ H s) {a : Addr} {xs : List V} (h : TpX X.K H a xs) : ∃ (its : List Value) (n : Nat), Vals xs its ∧ s.heap.get? a = some { cls := .type "tuple", data := .seq its.toArray n } ∧ xs.length ≤ sizeLine := by
  rcases h with ⟨o, h1, jts, m, h2⟩ | ⟨jts, n, h1, h5, h6⟩
  · obtain ⟨e, z, its, r, o', e', hc, n, hd⟩ := I.hok a _ h1
    subst h2
    rw [e] at e'
    cases e'
    cases hd
    exact ⟨its, m, r, e, z⟩
  · refine ⟨jts.toList, n, h6, I.kIn a _ h1, ?_⟩
    rw [h6.length, Array.length_toList]
    exact h5
/-- t.index(y), t a tuple -/
def rTix (K : PySem.W.Frag) : V → List V → Hp → VK → Prop := fun x xs H Q => ∃ F ys ds, Same F H ∧ RpB K F H x (.tuple ys) ∧ RpBs K F H xs ds ∧ Ans K F H (dMet .index (.list ys) ds) Q NoE
theorem mt_tix (hr : Rm X) : MtR X "tuple.index" (rTix X.K) := by
  intro pins s σ H x xs v us Q I rx rxs ⟨F, ys, ds, hs, ha, hds, h⟩
  obtain ⟨_, y, e0, rfl, f1, f2⟩ := list_of_met h
  cases e0
  obtain ⟨_, _, e1, e2, q⟩ := met_place h hs
  cases e1
  cases e2
  obtain ⟨w, rfl, hw⟩ := one_of hds rfl
  obtain ⟨uy, rfl, ry⟩ := Vals.one rxs
  obtain ⟨p, vs, rfl, h1, r1⟩ := ha.tupleX hs
  cases rx
  obtain ⟨bs, rd⟩ := Dp.reads I y w uy (hw.dp hs) ry
  obtain ⟨its, n, rv, eo, hsz⟩ := TpX.obj0 I h1
  obtain ⟨as, h4⟩ := Dp.readsAll I ys _ its ((r1.mono hs).dp) rv
  have hxs := (fine_list f1).1
  have hroom := hr.in1 (m := y.depth) (fine_list f1).2
  obtain ⟨j, hj, q⟩ := q
  obtain ⟨hjl, hit, hno⟩ := SeqAt.hit_at (vs := its.toArray) (show ReadsAll s.heap its.toArray.toList ys as from h4) hxs hj
  exact call_meets PySem.F.slot_tuple_index ⟨_, eo, rfl⟩ PySem.F.entry_tuple_index (PySem.F.args_tuple_index_2 _ _)
    (TI.tuple_indexAt p its.toArray n none #[] uy (fun u => PyData.eqv (SeqAt.readOf s.heap u) y) j hjl hit hno) ⟨eo, SeqAt.items_plain (vs := its.toArray) (show ReadsAll s.heap its.toArray.toList ys as from h4) rd hxs (fine_plain f2).1 hroom,
      ⟨.int (j : Nat), H, I.tok _, ⟨_, rfl⟩, q⟩⟩
def tTM (K : PySem.W.Frag) (r : V → List V → Hp → VK → Prop) (to : TE) (t : TA) : TE := fun σ H Q => to σ H fun x H1 => (∃ p vs, x = .ref p ∧ TpX K H1 p vs) ∧ t σ H1 fun xs H2 => r x xs H2 Q
theorem pe_tm {o e : Expr} {to : TE} {t : TA} {apos cpos : Pos} {r : V → List V → Hp → VK → Prop} (hm : MtR X "tuple.index" r) (ho : PE X o to) (ha : PA X [e] t) (hbase : attributeBase o "index" X.env (eval o X.env) = eval o X.env)
    (hfew : ((backTo cpos (starEach [e] X.env)).all (fun x => !x.1) && (backToKw cpos (keywordEach [] X.env)).all (fun x => x.1.isSome)
      && decide ([e].length + ([] : List Keyword).length + (if ([] : List Keyword).isEmpty then 0 else 1) < 30)) = true)
    (hline : (apos.endLine == cpos.line) = true) (hs : starEach [e] X.env = (false, eval e X.env) :: starEach [] X.env) :
    PE X (.Call (.Attribute o "index" apos) [e] [] cpos) (tTM X.K r to t) := by
  refine ⟨fun pins s σ H Q I h => ?_⟩
  refine wpAny_Call_method_late hbase hfew hline rfl (thn (ho.run pins s σ H _ I h) fun v s1 ⟨x, H1, I1, r1, ⟨p, vs, ex, ty⟩, q1⟩ => ?_)
  subst ex
  obtain rfl : v = Value.ref p := r1
  obtain ⟨its, n, _, eo, _⟩ := TpX.obj0 I1 ty
  refine ⟨"tuple", "tuple.index", PySem.F.plainAttrs_tuple, PySem.F.slot_tuple_index, PySem.F.type_tuple_index, ⟨_, eo, rfl⟩, fun a e => ⟨_, by cases e; exact eo, rfl⟩, ?_⟩
  have hA := ha.run cpos pins s1 σ H1 _ I1 q1
  rw [hs] at hA ⊢
  refine Calls.callWith_builtin (by rfl) (Calls.evalArgs_plain ?_)
  exact thn hA fun us s2 ⟨vs, H2, I2, r2, q2⟩ => hm pins s2 σ H2 (.ref p) vs (.ref p) us Q I2 rfl r2 q2
def tupR : D → R (List D)
  | .tuple xs => .ok xs
  | _ => .no
theorem pe_metT {apos : Pos} {xr : Env → R (List D)} (hr : Rm X) (hl : (apos.endLine == pos.line) = true) (hs : shp a = true) (hs2 : shp b = true) (ha : PE X a (rdV X.K F0 H0 ea W true xa)) (hb : PA X [b] (rdA X.K F0 H0 ea W false xr)) :
    PE X (.Call (.Attribute a "index" apos) [b] [] pos) (rdV X.K F0 H0 ea W false fun env => (xa env).bind fun u => (tupR u).bind fun xs => (xr env).bind fun vs => dMet .index (.list xs) vs) := by
  have hfew : ((backTo pos (starEach (b :: []) X.env)).all (fun x => !x.1) && (backToKw pos (keywordEach [] X.env)).all (fun x => x.1.isSome)
      && decide ((b :: ([] : List Expr)).length + ([] : List Keyword).length + (if ([] : List Keyword).isEmpty then 0 else 1) < 30)) = true := by
    rw [shp_star hs2]
    rfl
  refine PEi (pe_tm (mt_tix hr) ha hb (shp_base hs _) hfew hl (shp_star hs2 _)) fun σ H Q ⟨F, env, r, q⟩ => ⟨F, env, r, q.bind fun u F1 H1 _ e1 q1 v1 r1 => ?_⟩
  cases u with
  | tuple xs =>
    obtain ⟨p, vs, rfl, h1, hr1⟩ := r1.b.tupleX e1.sub
    refine ⟨⟨p, vs, rfl, h1⟩, F1, env, r.grow e1, ?_⟩
    have q1 : AnsW F1 H1 ((xr env).bind fun vs => dMet .index (.list xs) vs) (fun d F' H' => ∀ v, Rb X.K false F' H' v d → Q v H') fun c H' => W c σ H' := q1
    exact q1.bind fun ds F2 H2 _ e2 q2 v2 r2 => ⟨F2, xs, ds, e2.sub, r1.b.grow e2, RpBs.ofAll r2, q2.toA (noX_met .index _ _)⟩
  | _ => exact q1.elim
theorem pe_metD {m : Met} {apos : Pos} {xr : Env → R (List D)} (hr : Rm X) (hl : (apos.endLine == pos.line) = true) (hs : shp a = true) (hs2 : shp b = true) (ha : PE X a (rdV X.K F0 H0 ea W true xa)) (hb : PA X [b] (rdA X.K F0 H0 ea W false xr)) :
    PE X (.Call (.Attribute a (metNm m) apos) [b] [] pos) (rdV X.K F0 H0 ea W false fun env => (xa env).bind fun u => (sqM m u).bind fun xs => (xr env).bind fun vs => dMet m (.list xs) vs) := by
  refine ⟨fun pins s σ H Q I ⟨F, env, r, q⟩ => ?_⟩
  dsimp only at q
  cases h : xa env with
  | no => rw [h] at q; exact q.elim
  | ex cn =>
    rw [h] at q
    refine (pe_metL (m := m) (apos := apos) (pos := pos) hr hl hs hs2 ha hb).run pins s σ H Q I ⟨F, env, r, ?_⟩
    dsimp only
    rw [h]
    exact q
  | ok d =>
    rw [h] at q
    cases d with
    | tuple xs =>
      cases m with
      | index =>
        refine (pe_metT (apos := apos) (pos := pos) hr hl hs hs2 ha hb).run pins s σ H Q I ⟨F, env, r, ?_⟩
        dsimp only
        rw [h]
        exact q
      | count => exact q.elim
    | list xs =>
      refine (pe_metL (m := m) (apos := apos) (pos := pos) hr hl hs hs2 ha hb).run pins s σ H Q I ⟨F, env, r, ?_⟩
      dsimp only
      rw [h]
      exact q
    | _ => cases m <;> exact q.elim
/-! ### a call of a def -/
/-- a def's promise: what g says -/
def spF (K : PySem.W.Frag) (cv : Str → Value) (np : Nat) (g : List D → R D) : Sp := fun vs H Q Ex => vs.length = np ∧ ∃ F ds, Same F H ∧ RpAll K F vs ds ∧
  AnsW F H (g ds) (fun d F' H' => ∀ v, Rp K F' v d → Q v H') fun c H' => Ex (cv c) none H'
structure Callee (X : Cx) (cv : Str → Value) (x : Str) (np : Nat) (g : List D → R D) : Prop where
  ok : ∃ k f fd ps, FnOk X.prog X.w X.K X.mg X.base (L2.CX X.prog X.w) k f fd ps (spF X.K cv np g) ∧ Room k X.A ∧ X.mg x = some (.ref f) ∧ PySem.W.keepIn X.K (.ref f) = true ∧ Binds X.K fd ps []
/-- the wish about exceptions, by their names -/
def wx (cv : Str → Value) (W : WD) : WX := fun c d σ H => ∃ n, c = cv n ∧ d = none ∧ W n σ H
theorem pe_callD {cv : Str → Value} {n : Str} {np : Nat} {g : List D → R D} {es : List Expr} {xr : Env → R (List D)} {p : Pos} (tk : Takes X (wx cv W)) (C : Callee X cv n np g) (hg : Gl X n) (hd : (n == ("__debug__" : Str)) = false)
    (hs : ∀ y ∈ a :: es, shp y = true) (hl : ∀ env ds, xr env = .ok ds → ds.length = np) (ha : PA X (a :: es) (rdA X.K F0 H0 ea W false xr)) :
    PE X (.Call (.Name n p) (a :: es) [] pos) (rdV X.K F0 H0 ea W false fun env => (xr env).bind g) := by
  obtain ⟨k, f, fd, ps, F, hr, hm, hk, hb⟩ := C.ok
  refine PEi (pe_callSD (E := WE (wx cv W)) (dvs := []) F hr hg hm hk hb .nil (fun σ => passAt tk σ) ha hd (shp_star (hs a List.mem_cons_self) es) (backTo_any (starOk fun y hy => hs y (List.mem_cons_of_mem _ hy)))) fun σ H Q ⟨F, env, r, q⟩ =>
    ⟨F, env, r, q.bind fun ds F1 H1 hok e1 q1 vs r1 => ?_⟩
  have r1 : RpAll X.K F1 vs ds := r1
  show spF X.K cv np g (vs ++ []) H1 Q (WE (wx cv W) σ)
  rw [List.append_nil]
  refine ⟨by rw [r1.length]; exact hl env ds hok, F1, ds, e1.sub, r1, ?_⟩
  revert q1
  cases g ds with
  | ok d => exact fun q1 F' H' e v hv => q1 F' H' e v hv
  | ex c => exact fun q1 F' H' e => ⟨c, rfl, rfl, q1 F' H' e⟩
  | no => exact fun q => q
end
/-! ### targets -/
/-- the owned slots are owned before -/
def OwnSub (env' : Fp.Env) (σ' : L2.St) (env : Fp.Env) (σ : L2.St) : Prop := ∀ (i : Nat) (a : Addr), (∃ d, env'[i]? = some (Slot.own d)) → σ'[i]? = some (some (V.ref a)) → (∃ d, env[i]? = some (Slot.own d)) ∧ σ[i]? = some (some (V.ref a))
theorem OwnSub.refl {env : Fp.Env} {σ : L2.St} : OwnSub env σ env σ := fun _ _ h1 h2 => ⟨h1, h2⟩
theorem OwnSub.trans {e1 e2 e3 : Fp.Env} {s1 s2 s3 : L2.St} (h : OwnSub e1 s1 e2 s2) (k : OwnSub e2 s2 e3 s3) : OwnSub e1 s1 e3 s3 := fun i a h1 h2 => let ⟨h3, h4⟩ := h i a h1 h2; k i a h3 h4
section
variable {K : PySem.W.Frag} {F0 H0 F H F1 H1 : Hp} {ea : Ea} {env : Fp.Env} {σ : L2.St}
theorem set_get {α : Type} {l : List α} {i j : Nat} {x y : α} (h : (l.set i x)[j]? = some y) : (j = i ∧ y = x ∧ i < l.length) ∨ (j ≠ i ∧ l[j]? = some y) := by
  by_cases e : i = j
  · subst e
    by_cases hl : i < l.length
    · rw [List.getElem?_set_self hl] at h
      exact .inl ⟨rfl, (Option.some.inj h).symm, hl⟩
    · rw [List.getElem?_eq_none (by simpa using hl)] at h; cases h
  · rw [List.getElem?_set_ne e] at h
    exact .inr ⟨fun z => e z.symm, h⟩
theorem set_none {α : Type} {l : List α} {i j : Nat} {x y : α} (h : (l.set i x)[j]? = some y) (hi : ¬ i < l.length) : l[j]? = some y := by
  rcases set_get h with ⟨_, _, h⟩ | ⟨_, h⟩
  · exact absurd h hi
  · exact h
/-- a slot that is not owned is stored -/
theorem Rel.setN {i : Nat} {s : Slot} {x : Option V} (r : Rel K F0 H0 ea env σ F H) (hs : SlotOk K H0 F H ea s x) (hn : ∀ d, s ≠ .own d) : Rel K F0 H0 ea (env.set i s) (σ.set i x) F H := by
  refine ⟨r.ext, by rw [List.length_set, List.length_set]; exact r.len, fun j s' x' h1 h2 => ?_, fun j k s' t' x' y' a hjk h1 h2 h3 h4 o1 o2 => ?_⟩
  · rcases set_get h1 with ⟨e1, e2, e3⟩ | ⟨e1, e2⟩
    · rcases set_get h2 with ⟨f1, f2, f3⟩ | ⟨f1, f2⟩
      · subst e2 f2; exact hs
      · exact absurd e1 f1
    · rcases set_get h2 with ⟨f1, f2, f3⟩ | ⟨f1, f2⟩
      · exact absurd f1 e1
      · exact r.slot j s' x' e2 f2
  · have nown : ∀ {m : Nat} {u : Slot} {z : Option V}, (env.set i s)[m]? = some u → (σ.set i x)[m]? = some z → ownA u z a → env[m]? = some u ∧ σ[m]? = some z := fun {m u z} g1 g2 o => by
      rcases set_get g1 with ⟨e1, e2, e3⟩ | ⟨e1, e2⟩
      · obtain ⟨⟨d, hd⟩, _⟩ := o
        exact absurd (e2 ▸ hd) (hn d)
      · rcases set_get g2 with ⟨f1, f2, f3⟩ | ⟨f1, f2⟩
        · exact absurd f1 e1
        · exact ⟨e2, f2⟩
    obtain ⟨a1, a2⟩ := nown h1 h3 o1
    obtain ⟨b1, b2⟩ := nown h2 h4 o2
    exact r.apart j k s' t' x' y' a hjk a1 b1 a2 b2 o1 o2
theorem OwnSub.setN {i : Nat} {s : Slot} {x : Option V} (hn : ∀ d, s ≠ .own d) (hl : env.length = σ.length) : OwnSub (env.set i s) (σ.set i x) env σ := by
  intro j a hd h2
  obtain ⟨d, h1⟩ := hd
  rcases set_get h1 with ⟨e1, e2, e3⟩ | ⟨e1, e2⟩
  · exact absurd e2.symm (hn d)
  · rcases set_get h2 with ⟨f1, f2, f3⟩ | ⟨f1, f2⟩
    · exact absurd f1 e1
    · exact ⟨⟨d, e2⟩, f2⟩
theorem Rel.wipe (r : Rel K F0 H0 ea env σ F H) : ∀ vs : List Nat, Rel K F0 H0 ea (wipeE env vs) (L2.wipe σ vs) F H
  | [] => r
  | v :: vs => (Rel.wipe r vs).setN trivial fun _ e => nomatch e
theorem OwnSub.wipe (hl : env.length = σ.length) : ∀ vs : List Nat, OwnSub (wipeE env vs) (L2.wipe σ vs) env σ ∧ (wipeE env vs).length = (L2.wipe σ vs).length
  | [] => ⟨.refl, hl⟩
  | v :: vs => by
    obtain ⟨h1, h2⟩ := OwnSub.wipe hl vs
    refine ⟨(OwnSub.setN (s := Slot.un) (fun _ e => nomatch e) h2).trans h1, ?_⟩
    show ((wipeE env vs).set v .un).length = ((L2.wipe σ vs).set v none).length
    rw [List.length_set, List.length_set]; exact h2
theorem wipe_get {σ : L2.St} : ∀ {vs : List Nat} (j : Nat), (L2.wipe σ vs)[j]? = if j ∈ vs then (σ[j]?).map fun _ => none else σ[j]?
  | [], j => by simp [L2.wipe]
  | v :: vs, j => by
    show ((L2.wipe σ vs).set v none)[j]? = _
    by_cases e : v = j
    · subst e
      rw [if_pos List.mem_cons_self]
      by_cases hl : v < σ.length
      · rw [List.getElem?_set_self (by rw [wipe_length]; exact hl), List.getElem?_eq_getElem hl]
        rfl
      · rw [List.getElem?_eq_none (by rw [List.length_set, wipe_length]; omega), List.getElem?_eq_none (by omega)]
        rfl
    · rw [List.getElem?_set_ne e, wipe_get j]
      by_cases h : j ∈ vs
      · rw [if_pos h, if_pos (List.mem_cons_of_mem _ h)]
      · rw [if_neg h, if_neg (fun z => (List.mem_cons.mp z).elim (fun q => e q.symm) h)]
theorem wipe_set {σ : L2.St} {i : Nat} {x : Option V} {vs : List Nat} (h : i ∈ vs) : L2.wipe (σ.set i x) vs = L2.wipe σ vs := by
  apply List.ext_getElem?
  intro j
  rw [wipe_get, wipe_get]
  by_cases e : i = j
  · subst e
    rw [if_pos h, if_pos h]
    by_cases hl : i < σ.length
    · rw [List.getElem?_set_self hl, List.getElem?_eq_getElem hl]; rfl
    · rw [List.getElem?_eq_none (by simpa using hl), List.getElem?_eq_none (by omega)]
  · rw [List.getElem?_set_ne e]
theorem wipe_wipe {σ : L2.St} {vs : List Nat} : L2.wipe (L2.wipe σ vs) vs = L2.wipe σ vs := by
  apply List.ext_getElem?
  intro j
  rw [wipe_get, wipe_get]
  by_cases h : j ∈ vs
  · rw [if_pos h, if_pos h]
    cases σ[j]? <;> rfl
  · rw [if_neg h, if_neg h]
theorem wipe_sub {σ σ' : L2.St} {vs ws : List Nat} (h : ∀ i ∈ vs, i ∈ ws) (e : L2.wipe σ' vs = L2.wipe σ vs) : L2.wipe σ' ws = L2.wipe σ ws := by
  apply List.ext_getElem?
  intro j
  have q : (L2.wipe σ' vs)[j]? = (L2.wipe σ vs)[j]? := by rw [e]
  rw [wipe_get, wipe_get] at q
  rw [wipe_get, wipe_get]
  by_cases hj : j ∈ vs
  · rw [if_pos hj, if_pos hj] at q
    rw [if_pos (h j hj), if_pos (h j hj)]
    exact q
  · rw [if_neg hj, if_neg hj] at q
    rw [q]
end
/-- a target's reading -/
def rdP (K : PySem.W.Frag) (F0 H0 : Hp) (ea : Ea) (tg : Tg) : TG := fun v σ H Q => ∃ F env d env', Rel K F0 H0 ea env σ F H ∧ Rp K F v d ∧ asg tg d env = .ok env' ∧
  ∀ σ', Rel K F0 H0 ea env' σ' F H → L2.wipe σ' (tgv tg) = L2.wipe σ (tgv tg) → OwnSub env' σ' env σ → Q σ' H
section
variable {X : Cx} {F0 H0 : Hp} {ea : Ea} {G : Gx} {bk : Bk}
theorem PGi {x : Expr} {t t' : TG} (h : PG X x t) (k : ∀ v σ H Q, t' v σ H Q → t v σ H Q) : PG X x t' := ⟨fun pins s σ H v u Q I r q => h.run pins s σ H v u Q I r (k v σ H Q q)⟩
theorem tg_star {tg : Tg} {x : Expr} {env : PySem.Env} (h : chkTg G bk tg x = true) (es : List Expr) : assignEach (x :: es) env = (false, assign x env) :: assignEach es env := by
  cases x <;> first
    | rfl
    | (cases tg <;> simp [chkTg] at h)
theorem tg_sound (hc : X.calm = true) (hN : X.N = G.N) (nd : X.N.Nodup) (st : ∀ x, bk.st x = true → Loc X.env.scope x ∧ (X.fn x = true ∨ X.env.scope.names.lookup x = some .local)) :
    ∀ (tg : Tg) (x : Expr), chkTg G bk tg x = true → PG X x (rdP X.K F0 H0 ea tg)
  | .nm i, .Name x p, h => by
    simp only [chkTg, Bool.and_eq_true, decide_eq_true_eq] at h
    obtain ⟨s1, s2⟩ := st x h.2
    refine PGi (pg_name nd (by rw [hN]; exact h.1) s1 s2) fun v σ H Q ⟨F, env, d, env', r, rp, ha, k⟩ => ?_
    simp only [asg] at ha
    split at ha
    · cases ha
      refine k _ (r.setN ⟨v, rfl, rp⟩ fun _ e => nomatch e) (wipe_set List.mem_cons_self) (OwnSub.setN (fun _ e => nomatch e) r.len)
    · cases ha
  | .t2 a b, .Tuple [x, y] k p, h => by
    simp only [chkTg, Bool.and_eq_true] at h
    have ga := tg_sound hc hN nd st a x h.1
    have gb := tg_sound hc hN nd st b y h.2
    have hs1 : assignEach [x, y] X.env = (false, assign x X.env) :: assignEach [y] X.env := tg_star h.1 _
    have hs2 : assignEach [y] X.env = (false, assign y X.env) :: [] := tg_star h.2 _
    refine PGi (pg_tup (n := 2) hc (pgs_cons ga (pgs_cons gb pgs_nil (by rw [hs2]; rfl)) (by rw [hs1]; rfl)) (by rw [hs1, hs2]; rfl) (by rw [hs1, hs2]; rfl)) fun v σ H Q ⟨F, env, d, env', r, rp, ha, k⟩ => ?_
    cases d with
    | tuple ds =>
      match ds, rp, ha with
      | [dx, dy], rp, ha =>
        simp only [asg] at ha
        cases e1 : asg a dx env with
        | ok en1 =>
          rw [e1] at ha
          have ha : asg b dy en1 = .ok env' := ha
          cases rp with
          | tup hq hr =>
            cases hr with
            | cons r1 hr =>
              cases hr with
              | cons r2 hr =>
                cases hr
                refine ⟨_, _, rfl, (TpX.mono r.sub hq).sq, rfl, _, _, rfl, F, env, dx, en1, r, r1, e1, fun σ1 R1 w1 o1 => ⟨_, _, rfl, F, en1, dy, env', R1, r2, ha, fun σ2 R2 w2 o2 => ⟨rfl, k σ2 R2 ?_ (o2.trans o1)⟩⟩⟩
                rw [wipe_sub (ws := tgv (.t2 a b)) (fun i hi => List.mem_append_right _ hi) w2, wipe_sub (ws := tgv (.t2 a b)) (fun i hi => List.mem_append_left _ hi) w1]
        | ex c => rw [e1] at ha; cases ha
        | no => rw [e1] at ha; cases ha
      | [], rp, ha => simp [asg] at ha
      | [_], rp, ha => simp [asg] at ha
      | _ :: _ :: _ :: _, rp, ha => simp [asg] at ha
    | _ => simp [asg] at ha
  | .t3 a b c, .Tuple [x, y, z] k p, h => by
    simp only [chkTg, Bool.and_eq_true] at h
    have ga := tg_sound hc hN nd st a x h.1.1
    have gb := tg_sound hc hN nd st b y h.1.2
    have gc := tg_sound hc hN nd st c z h.2
    have hs1 : assignEach [x, y, z] X.env = (false, assign x X.env) :: assignEach [y, z] X.env := tg_star h.1.1 _
    have hs2 : assignEach [y, z] X.env = (false, assign y X.env) :: assignEach [z] X.env := tg_star h.1.2 _
    have hs3 : assignEach [z] X.env = (false, assign z X.env) :: [] := tg_star h.2 _
    refine PGi (pg_tup (n := 3) hc (pgs_cons ga (pgs_cons gb (pgs_cons gc pgs_nil (by rw [hs3]; rfl)) (by rw [hs2]; rfl)) (by rw [hs1]; rfl)) (by rw [hs1, hs2, hs3]; rfl) (by rw [hs1, hs2, hs3]; rfl)) fun v σ H Q ⟨F, env, d, env', r, rp, ha, k⟩ => ?_
    cases d with
    | tuple ds =>
      match ds, rp, ha with
      | [dx, dy, dz], rp, ha =>
        simp only [asg] at ha
        cases e1 : asg a dx env with
        | ok en1 =>
          rw [e1] at ha
          have ha : ((asg b dy en1).bind fun e => asg c dz e) = .ok env' := ha
          cases e2 : asg b dy en1 with
          | ok en2 =>
            rw [e2] at ha
            have ha : asg c dz en2 = .ok env' := ha
            cases rp with
            | tup hq hr =>
              cases hr with
              | cons r1 hr =>
                cases hr with
                | cons r2 hr =>
                  cases hr with
                  | cons r3 hr =>
                    cases hr
                    refine ⟨_, _, rfl, (TpX.mono r.sub hq).sq, rfl, _, _, rfl, F, env, dx, en1, r, r1, e1, fun σ1 R1 w1 o1 => ⟨_, _, rfl, F, en1, dy, en2, R1, r2, e2, fun σ2 R2 w2 o2 => ⟨_, _, rfl, F, en2, dz, env', R2, r3, ha, fun σ3 R3 w3 o3 => ⟨rfl, k σ3 R3 ?_ (o3.trans (o2.trans o1))⟩⟩⟩⟩
                    rw [wipe_sub (ws := tgv (.t3 a b c)) (fun i hi => List.mem_append_right _ (List.mem_append_right _ hi)) w3, wipe_sub (ws := tgv (.t3 a b c)) (fun i hi => List.mem_append_right _ (List.mem_append_left _ hi)) w2, wipe_sub (ws := tgv (.t3 a b c)) (fun i hi => List.mem_append_left _ hi) w1]
          | ex c => rw [e2] at ha; cases ha
          | no => rw [e2] at ha; cases ha
        | ex c => rw [e1] at ha; cases ha
        | no => rw [e1] at ha; cases ha
      | [], rp, ha => simp [asg] at ha
      | [_], rp, ha => simp [asg] at ha
      | [_, _], rp, ha => simp [asg] at ha
      | _ :: _ :: _ :: _ :: _, rp, ha => simp [asg] at ha
    | _ => simp [asg] at ha
end
end Fp

set_option Elab.async false
set_option linter.all false
set_option maxRecDepth 100000
set_option maxHeartbeats 1000000
/-! What is walked; comprehensions. -/
namespace Fp
open PySem PySem.Spec PyProof.Rows L2
section
variable {K : PySem.W.Frag} {F H F1 H1 : Hp} {bor : Bool}
theorem Pk.sub (h : Pk bor F H F1 H1) : Same F F1 ∧ Same F1 H1 := by
  unfold Pk at h
  split at h
  · exact ⟨h.ff, h.sub⟩
  · exact h
theorem Pk.refl (s : Same F H) : Pk bor F H F H := by
  unfold Pk
  split
  · exact .refl s
  · exact ⟨Same.refl _, s⟩
/-- a list that is walked -/
structure LsAt (K : PySem.W.Frag) (bor : Bool) (F H : Hp) (a : Addr) (ds : List D) : Prop where
  ls : ∃ vs, ∀ F' H', Pk bor F H F' H' → SqL K H' a vs ∧ RpAll K F' vs ds
structure TpAt (K : PySem.W.Frag) (bor : Bool) (F H : Hp) (a : Addr) (ds : List D) : Prop where
  ls : ∃ vs, ∀ F' H', Pk bor F H F' H' → SqT K H' a vs ∧ RpAll K F' vs ds
theorem Rb.list {v : V} {ds : List D} (s : Same F H) (h : Rb K bor F H v (.list ds)) : ∃ a, v = .ref a ∧ LsAt K bor F H a ds := by
  unfold Rb at h
  split at h
  · rename_i hb
    obtain ⟨a, vs, e, h1, h2⟩ := h.list s
    refine ⟨a, e, ⟨vs, fun F' H' p => ?_⟩⟩
    unfold Pk at p
    rw [if_pos hb] at p
    exact ⟨(LsX.mono p.hh h1).sq, h2.mono p.ff⟩
  · rename_i hb
    cases h with
    | @lst a xs _ hr ht =>
      refine ⟨a, rfl, ⟨xs, fun F' H' p => ?_⟩⟩
      exact ⟨(LsX.mono p.sub.2 (LsX.mono p.sub.1 hr)).sq, ht.mono p.sub.1⟩
theorem Rb.tuple {v : V} {ds : List D} (s : Same F H) (h : Rb K bor F H v (.tuple ds)) : ∃ a, v = .ref a ∧ TpAt K bor F H a ds := by
  rcases h.b with q | ⟨_, _, _, _, q, _⟩
  · cases q with
    | tup hq ht => exact ⟨_, rfl, ⟨_, fun F' H' p => ⟨(TpX.mono (p.sub.1.trans p.sub.2) hq).sq, ht.mono p.sub.1⟩⟩⟩
  · cases q
theorem Pk.ext (b : Pk bor F1 H1 F H) {F2 H2 : Hp} (e : Ext F H F2 H2) : Pk bor F1 H1 F2 H2 := by
  unfold Pk at b ⊢
  split at b
  · rename_i hb; rw [if_pos hb]; exact b.trans e
  · rename_i hb; rw [if_neg hb]; exact ⟨b.1.trans e.ff, e.sub⟩
theorem LsAt.grow {a : Addr} {ds : List D} (h : LsAt K bor F H a ds) (e : Ext F H F1 H1) : LsAt K bor F1 H1 a ds := by
  obtain ⟨vs, k⟩ := h.ls
  refine ⟨vs, fun F' H' p => k F' H' ?_⟩
  unfold Pk at p ⊢
  split at p
  · rename_i hb; rw [if_pos hb]; exact e.trans p
  · rename_i hb; rw [if_neg hb]; exact ⟨e.ff.trans p.1, p.2⟩
theorem TpAt.grow {a : Addr} {ds : List D} (h : TpAt K bor F H a ds) (e : Ext F H F1 H1) : TpAt K bor F1 H1 a ds := by
  obtain ⟨vs, k⟩ := h.ls
  refine ⟨vs, fun F' H' p => k F' H' ?_⟩
  unfold Pk at p ⊢
  split at p
  · rename_i hb; rw [if_pos hb]; exact e.trans p
  · rename_i hb; rw [if_neg hb]; exact ⟨e.ff.trans p.1, p.2⟩
theorem wk_list {a : Addr} {ds : List D} (h : LsAt K bor F H a ds) : Wk K (Itl K a) ds (Pk bor F H) := by
  obtain ⟨vs, k⟩ := h.ls
  refine ⟨fun i d F' H' hd p => ?_, fun F' H' p => ?_⟩
  · obtain ⟨q, r⟩ := k F' H' p
    obtain ⟨x, hx, rx⟩ := r.get hd
    refine ⟨⟨vs, x, q, hx⟩, fun y H3 ⟨e, hy⟩ => ?_⟩
    subst e
    have := hy vs q
    rw [hx] at this
    cases this
    exact ⟨F', .refl p.sub.2, rx⟩
  · obtain ⟨q, r⟩ := k F' H' p
    exact ⟨vs, q, Nat.le_of_eq r.length⟩
theorem wk_tup {a : Addr} {ds : List D} (h : TpAt K bor F H a ds) : Wk K (Itt K a) ds (Pk bor F H) := by
  obtain ⟨vs, k⟩ := h.ls
  refine ⟨fun i d F' H' hd p => ?_, fun F' H' p => ?_⟩
  · obtain ⟨q, r⟩ := k F' H' p
    obtain ⟨x, hx, rx⟩ := r.get hd
    refine ⟨⟨vs, x, q, hx⟩, fun y H3 ⟨e, hy⟩ => ?_⟩
    subst e
    have := hy vs q
    rw [hx] at this
    cases this
    exact ⟨F', .refl p.sub.2, rx⟩
  · obtain ⟨q, r⟩ := k F' H' p
    exact ⟨vs, q, Nat.le_of_eq r.length⟩
theorem fresh_new {F' H' H3 : Hp} {v : V} {vs : List V} {ds : List D} (s : Same F' H') (n : newP H' v H3 vs) (r : RpAll K F' vs ds) : ∃ F3, Ext F' H' F3 H3 ∧ Rp K F3 v (.tuple ds) := by
  obtain ⟨T, ob, rfl, hT, hd, rfl⟩ := n
  have e := (Ext.refl s).frozen (p := T) (o := .frz ob (.tup vs)) hT
  exact ⟨_, e, .tup (TpX.new hd) (r.mono e.ff)⟩
/-- a sequence, list or tuple, at each turn -/
def SeqAt (K : PySem.W.Frag) (bor : Bool) (F H : Hp) (t : Bool) (a : Addr) (ds : List D) : Prop := ∃ vs, ∀ F' H', Pk bor F H F' H' → SqB K t H' a vs ∧ RpAll K F' vs ds
theorem SeqAt.list {a : Addr} {ds : List D} (h : LsAt K bor F H a ds) : SeqAt K bor F H false a ds := h.ls
theorem SeqAt.tup {a : Addr} {ds : List D} (h : TpAt K bor F H a ds) : SeqAt K bor F H true a ds := h.ls
theorem seq_of {v : V} {d : D} {ds : List D} (s : Same F H) (e : sq d = .ok ds) (h : Rb K bor F H v d) : ∃ t a, v = .ref a ∧ SeqAt K bor F H t a ds := by
  cases d with
  | list xs =>
    cases e
    obtain ⟨p, rfl, k⟩ := Rb.list s h
    exact ⟨false, p, rfl, .list k⟩
  | tuple xs =>
    cases e
    obtain ⟨p, rfl, k⟩ := Rb.tuple s h
    exact ⟨true, p, rfl, .tup k⟩
  | _ => cases e
theorem zip_get {xs ys : List D} {i : Nat} {d : D} (h : (zipD xs ys)[i]? = some d) : ∃ x y, xs[i]? = some x ∧ ys[i]? = some y ∧ d = .tuple [x, y] := by
  unfold zipD at h
  rw [List.getElem?_zipWith] at h
  cases h1 : xs[i]? with
  | none => rw [h1] at h; cases h
  | some x =>
    cases h2 : ys[i]? with
    | none => rw [h1, h2] at h; cases h
    | some y =>
      rw [h1, h2] at h
      cases h
      exact ⟨x, y, rfl, rfl, rfl⟩
theorem wk_zipX {t u : Bool} {a b : Addr} {ds es : List D} (h : SeqAt K bor F H t a ds) (h2 : SeqAt K bor F H u b es) : Wk K (ItzX K t u a b) (zipD ds es) (Pk bor F H) := by
  obtain ⟨vs, k⟩ := h
  obtain ⟨ws, k2⟩ := h2
  refine ⟨fun i d F' H' hd p => ?_, fun F' H' p => ?_⟩
  · obtain ⟨q, r⟩ := k F' H' p
    obtain ⟨q2, r2⟩ := k2 F' H' p
    obtain ⟨dx, dy, hdx, hdy, rfl⟩ := zip_get hd
    obtain ⟨x, hx, rx⟩ := r.get hdx
    obtain ⟨y, hy, ry⟩ := r2.get hdy
    refine ⟨⟨vs, ws, x, y, q, q2, hx, hy⟩, fun v H3 ⟨x', y', n, h1, h2⟩ => ?_⟩
    cases hx.symm.trans (h1 vs q)
    cases hy.symm.trans (h2 ws q2)
    exact fresh_new p.sub.2 n (.cons rx (.cons ry .nil))
  · obtain ⟨q, r⟩ := k F' H' p
    obtain ⟨q2, r2⟩ := k2 F' H' p
    have l1 := r.length
    have l2 := r2.length
    unfold zipD
    rw [List.length_zipWith]
    exact ⟨vs, ws, q, q2, by omega, by omega, by omega⟩
theorem zip3_get : ∀ {xs ys zs : List D} {i : Nat} {d : D}, (zipD3 xs ys zs)[i]? = some d → ∃ x y z, xs[i]? = some x ∧ ys[i]? = some y ∧ zs[i]? = some z ∧ d = .tuple [x, y, z]
  | [], _, _, _, _, h => by simp [zipD3] at h
  | _ :: _, [], _, _, _, h => by simp [zipD3] at h
  | _ :: _, _ :: _, [], _, _, h => by simp [zipD3] at h
  | x :: xs, y :: ys, z :: zs, 0, d, h => by
    rw [zipD3] at h
    cases h
    exact ⟨x, y, z, rfl, rfl, rfl, rfl⟩
  | x :: xs, y :: ys, z :: zs, i + 1, d, h => by
    rw [zipD3, List.getElem?_cons_succ] at h
    obtain ⟨a, b, c, h1, h2, h3, h4⟩ := zip3_get h
    exact ⟨a, b, c, by simpa using h1, by simpa using h2, by simpa using h3, h4⟩
theorem zip3_len : ∀ {xs ys zs : List D}, (zipD3 xs ys zs).length = min xs.length (min ys.length zs.length)
  | [], _, _ => by simp [zipD3]
  | _ :: _, [], _ => by simp [zipD3]
  | _ :: _, _ :: _, [] => by simp [zipD3]
  | x :: xs, y :: ys, z :: zs => by
    rw [zipD3, List.length_cons, zip3_len, List.length_cons, List.length_cons, List.length_cons]
    omega
theorem wk_zipX3 {t u w : Bool} {a b c : Addr} {ds es gs : List D} (h : SeqAt K bor F H t a ds) (h2 : SeqAt K bor F H u b es) (h3 : SeqAt K bor F H w c gs) : Wk K (ItzX3 K t u w a b c) (zipD3 ds es gs) (Pk bor F H) := by
  obtain ⟨vs, k⟩ := h
  obtain ⟨ws, k2⟩ := h2
  obtain ⟨us, k3⟩ := h3
  refine ⟨fun i d F' H' hd p => ?_, fun F' H' p => ?_⟩
  · obtain ⟨q, r⟩ := k F' H' p
    obtain ⟨q2, r2⟩ := k2 F' H' p
    obtain ⟨q3, r3⟩ := k3 F' H' p
    obtain ⟨dx, dy, dz, hdx, hdy, hdz, rfl⟩ := zip3_get hd
    obtain ⟨x, hx, rx⟩ := r.get hdx
    obtain ⟨y, hy, ry⟩ := r2.get hdy
    obtain ⟨z, hz, rz⟩ := r3.get hdz
    refine ⟨⟨vs, ws, us, x, y, z, q, q2, q3, hx, hy, hz⟩, fun v H3 ⟨x', y', z', n, h1, h2, h3⟩ => ?_⟩
    cases hx.symm.trans (h1 vs q)
    cases hy.symm.trans (h2 ws q2)
    cases hz.symm.trans (h3 us q3)
    exact fresh_new p.sub.2 n (.cons rx (.cons ry (.cons rz .nil)))
  · obtain ⟨q, r⟩ := k F' H' p
    obtain ⟨q2, r2⟩ := k2 F' H' p
    obtain ⟨q3, r3⟩ := k3 F' H' p
    have l1 := r.length
    have l2 := r2.length
    have l3 := r3.length
    rw [zip3_len]
    exact ⟨vs, ws, us, q, q2, q3, by omega, by omega, by omega, by omega⟩
theorem enum_get : ∀ {xs : List D} {n i : Nat} {d : D}, (enumD n xs)[i]? = some d → ∃ x, xs[i]? = some x ∧ d = .tuple [.int ((n + i : Nat) : Int), x]
  | [], n, i, d, h => by simp [enumD] at h
  | x :: xs, n, 0, d, h => by
    simp only [enumD, List.getElem?_cons_zero] at h
    cases h
    exact ⟨x, rfl, rfl⟩
  | x :: xs, n, i + 1, d, h => by
    simp only [enumD, List.getElem?_cons_succ] at h
    obtain ⟨y, h1, h2⟩ := enum_get h
    refine ⟨y, by simpa using h1, ?_⟩
    rw [h2, Nat.add_assoc, Nat.add_comm 1 i]
theorem enum_len : ∀ (xs : List D) (n : Nat), (enumD n xs).length = xs.length
  | [], _ => rfl
  | x :: xs, n => by rw [enumD, List.length_cons, List.length_cons, enum_len xs]
theorem wk_enumX {t : Bool} {a : Addr} {ds : List D} (h : SeqAt K bor F H t a ds) : Wk K (IteX K t a) (enumD 0 ds) (Pk bor F H) := by
  obtain ⟨vs, k⟩ := h
  refine ⟨fun i d F' H' hd p => ?_, fun F' H' p => ?_⟩
  · obtain ⟨q, r⟩ := k F' H' p
    obtain ⟨dx, hdx, rfl⟩ := enum_get hd
    obtain ⟨x, hx, rx⟩ := r.get hdx
    refine ⟨⟨vs, x, q, hx⟩, fun v H3 ⟨x', n, h1⟩ => ?_⟩
    cases hx.symm.trans (h1 vs q)
    rw [Nat.zero_add]
    exact fresh_new p.sub.2 n (.cons (.int _) (.cons rx .nil))
  · obtain ⟨q, r⟩ := k F' H' p
    exact ⟨vs, q, by rw [enum_len]; exact r.length⟩
theorem wk_range (lo : Int) (n : Nat) : Wk K (Itr lo n) (rangeD lo n) (Pk bor F H) := by
  refine ⟨fun i d F' H' hd p => ?_, fun F' H' p => ?_⟩
  · unfold rangeD at hd
    rw [List.getElem?_map] at hd
    by_cases hi : i < n
    · rw [List.getElem?_range hi] at hd
      cases hd
      refine ⟨hi, fun x H3 ⟨e1, e2⟩ => ?_⟩
      subst e1 e2
      exact ⟨F', .refl p.sub.2, .int _⟩
    · rw [List.getElem?_eq_none (by rw [List.length_range]; omega)] at hd
      cases hd
  · show n ≤ (rangeD lo n).length
    unfold rangeD
    rw [List.length_map, List.length_range]
    exact Nat.le_refl _
theorem wk_str (z : Str) : Wk K (Its z) (z.cps.toList.map fun c => .str ⟨#[c]⟩) (Pk bor F H) := by
  refine ⟨fun i d F' H' hd p => ?_, fun F' H' p => ?_⟩
  · rw [List.getElem?_map] at hd
    cases h : z.cps.toList[i]? with
    | none => rw [h] at hd; cases hd
    | some c =>
      rw [h] at hd
      cases hd
      have hi : i < z.cps.size := by
        have := (List.getElem?_eq_some_iff.mp h).1
        simpa using this
      refine ⟨hi, fun x H3 ⟨e1, c', e2, e3⟩ => ?_⟩
      subst e1 e3
      have e4 : z.cps.toList[i]? = some c' := by rw [Array.getElem?_toList]; exact e2
      rw [h] at e4
      cases e4
      exact ⟨F', .refl p.sub.2, .str _⟩
  · show z.cps.size ≤ _
    rw [List.length_map, Array.length_toList]
    exact Nat.le_refl _
end
section
variable {X : Cx} {F0 H0 : Hp} {ea : Ea} {W : WD} {bor : Bool} {x a b c tgx : Expr} {xa xb xc : Env → R D} {pos : Pos}
theorem pi_dat (ha : PE X a (rdV X.K F0 H0 ea W bor xa)) : PI X tgx a (rdI X.K F0 H0 ea W bor fun env => (xa env).bind itemsD) := by
  refine ⟨fun pins s σ H R' I ⟨F, env, r, q⟩ => ?_⟩
  dsimp only at q
  cases h : xa env with
  | no => rw [h] at q; exact q.elim
  | ex cn =>
    rw [h] at q
    refine (pi_list (tg := tgx) ha).run pins s σ H R' I ⟨F, env, r, ?_⟩
    rw [h]
    exact q
  | ok d =>
    rw [h] at q
    have q : AnsW F H (itemsD d) _ _ := q
    cases d with
    | list ds =>
      refine (pi_list (tg := tgx) ha).run pins s σ H R' I ⟨F, env, r, ?_⟩
      rw [h]
      intro F1 H1 e1 v rv
      obtain ⟨p, rfl, k⟩ := Rb.list e1.sub rv
      obtain ⟨vs, k2⟩ := k.ls
      exact ⟨p, rfl, ⟨vs, (k2 F1 H1 (Pk.refl e1.sub)).1⟩, q F1 H1 e1 _ (wk_list k)⟩
    | tuple ds =>
      refine (pi_tup (tg := tgx) ha).run pins s σ H R' I ⟨F, env, r, ?_⟩
      rw [h]
      intro F1 H1 e1 v rv
      obtain ⟨p, rfl, k⟩ := Rb.tuple e1.sub rv
      obtain ⟨vs, k2⟩ := k.ls
      exact ⟨p, rfl, ⟨vs, (k2 F1 H1 (Pk.refl e1.sub)).1⟩, q F1 H1 e1 _ (wk_tup k)⟩
    | str z =>
      refine (pi_str (tg := tgx) ha).run pins s σ H R' I ⟨F, env, r, ?_⟩
      rw [h]
      intro F1 H1 e1 v rv
      cases rv.b.str
      exact ⟨z, rfl, q F1 H1 e1 _ (wk_str z)⟩
    | _ => exact q.elim
theorem noX_sq (d : D) : NoX (sq d) := fun c => by cases d <;> exact fun z => nomatch z
theorem zipR_sq (u v : D) : zipR u v = (sq u).bind fun xs => (sq v).bind fun ys => .ok (zipD xs ys) := by cases u <;> cases v <;> rfl
theorem pi_zipD {elts : List Expr} {kk : Nat} {tpos p : Pos} (hg : Gl X "zip") (hm : X.mg "zip" = none) (hs : shp a = true) (hs2 : shp b = true) (ha : PE X a (rdV X.K F0 H0 ea W bor xa)) (hb : PE X b (rdV X.K F0 H0 ea W bor xb)) :
    PI X (.Tuple elts kk tpos) (.Call (.Name "zip" p) [a, b] [] pos) (rdI X.K F0 H0 ea W bor fun env => (xa env).bind fun u => (xb env).bind fun v => zipR u v) :=
  PIi (pi_zipX hg hm (pa_cons ha (pa_cons hb pa_nil (shp_star hs2 _)) (shp_star hs _)) (shp_star hs _) (backTo_any (starOk fun y hy => by
    rcases List.mem_singleton.mp hy with rfl; exact hs2))) fun σ H R' ⟨F, env, r, q⟩ => ⟨F, env, r, q.bind fun u F1 H1 _ e1 q1 v1 r1 => ⟨F1, env, r.grow e1, q1.bind fun w F2 H2 _ e2 q2 v2 r2 => by
      have r1 := r1.grow e2
      rw [zipR_sq] at q2
      cases h1 : sq u with
      | no => rw [h1] at q2; exact q2.elim
      | ex c => exact absurd h1 (noX_sq u c)
      | ok xs =>
        cases h2 : sq w with
        | no => rw [h1, R.bind_ok, h2] at q2; exact q2.elim
        | ex c => exact absurd h2 (noX_sq w c)
        | ok ys =>
          rw [h1, R.bind_ok, h2, R.bind_ok] at q2
          obtain ⟨t1, p1, rfl, k1⟩ := seq_of e2.sub h1 r1
          obtain ⟨t2, p2, rfl, k2⟩ := seq_of e2.sub h2 r2
          obtain ⟨vs, g1⟩ := id k1
          obtain ⟨ws, g2⟩ := id k2
          exact ⟨t1, t2, p1, p2, vs, ws, rfl, (g1 _ _ (Pk.refl e2.sub)).1, (g2 _ _ (Pk.refl e2.sub)).1, AnsW.here e2.sub q2 _ (wk_zipX k1 k2)⟩⟩⟩
theorem pi_zip3D {elts : List Expr} {kk : Nat} {tpos p : Pos} (hg : Gl X "zip") (hm : X.mg "zip" = none) (hs : shp a = true) (hs2 : shp b = true) (hs3 : shp c = true) (ha : PE X a (rdV X.K F0 H0 ea W bor xa)) (hb : PE X b (rdV X.K F0 H0 ea W bor xb)) (hc : PE X c (rdV X.K F0 H0 ea W bor xc)) :
    PI X (.Tuple elts kk tpos) (.Call (.Name "zip" p) [a, b, c] [] pos) (rdI X.K F0 H0 ea W bor fun env => (xa env).bind fun u => (xb env).bind fun v => (xc env).bind fun w => zipR3 u v w) :=
  PIi (pi_zipX3 hg hm (pa_cons ha (pa_cons hb (pa_cons hc pa_nil (shp_star hs3 _)) (shp_star hs2 _)) (shp_star hs _)) (shp_star hs _) (backTo_any (starOk fun y hy => by
    rcases List.mem_cons.mp hy with rfl | hy
    · exact hs2
    · rcases List.mem_singleton.mp hy with rfl; exact hs3))) fun σ H R' ⟨F, env, r, q⟩ => ⟨F, env, r, q.bind fun u F1 H1 _ e1 q1 v1 r1 => ⟨F1, env, r.grow e1, q1.bind fun w F2 H2 _ e2 q2 v2 r2 => ⟨F2, env, (r.grow e1).grow e2, q2.bind fun z F3 H3 _ e3 q3 v3 r3 => by
      have r1 := (r1.grow e2).grow e3
      have r2 := r2.grow e3
      unfold zipR3 at q3
      cases h1 : sq u with
      | no => rw [h1] at q3; exact q3.elim
      | ex c => exact absurd h1 (noX_sq u c)
      | ok xs =>
        cases h2 : sq w with
        | no => rw [h1, R.bind_ok, h2] at q3; exact q3.elim
        | ex c => exact absurd h2 (noX_sq w c)
        | ok ys =>
          cases h3 : sq z with
          | no => rw [h1, R.bind_ok, h2, R.bind_ok, h3] at q3; exact q3.elim
          | ex c => exact absurd h3 (noX_sq z c)
          | ok zs =>
            rw [h1, R.bind_ok, h2, R.bind_ok, h3, R.bind_ok] at q3
            obtain ⟨t1, p1, rfl, k1⟩ := seq_of e3.sub h1 r1
            obtain ⟨t2, p2, rfl, k2⟩ := seq_of e3.sub h2 r2
            obtain ⟨t3, p3, rfl, k3⟩ := seq_of e3.sub h3 r3
            obtain ⟨vs, g1⟩ := id k1
            obtain ⟨ws, g2⟩ := id k2
            obtain ⟨us, g3⟩ := id k3
            exact ⟨t1, t2, t3, p1, p2, p3, vs, ws, us, rfl, (g1 _ _ (Pk.refl e3.sub)).1, (g2 _ _ (Pk.refl e3.sub)).1, (g3 _ _ (Pk.refl e3.sub)).1, AnsW.here e3.sub q3 _ (wk_zipX3 k1 k2 k3)⟩⟩⟩⟩
theorem pi_enuD {elts : List Expr} {kk : Nat} {tpos p : Pos} (hg : Gl X "enumerate") (hm : X.mg "enumerate" = none) (hs : shp a = true) (ha : PE X a (rdV X.K F0 H0 ea W bor xa)) :
    PI X (.Tuple elts kk tpos) (.Call (.Name "enumerate" p) [a] [] pos) (rdI X.K F0 H0 ea W bor fun env => (xa env).bind fun u => (sq u).bind fun xs => .ok (enumD 0 xs)) :=
  PIi (pi_enumX hg hm (pa_cons ha pa_nil (shp_star hs _)) (shp_star hs _)) fun σ H R' ⟨F, env, r, q⟩ => ⟨F, env, r, q.bind fun u F1 H1 _ e1 q1 v1 r1 => by
      cases h1 : sq u with
      | no => rw [h1] at q1; exact q1.elim
      | ex c => exact absurd h1 (noX_sq u c)
      | ok xs =>
        rw [h1, R.bind_ok] at q1
        obtain ⟨t1, p1, rfl, k1⟩ := seq_of e1.sub h1 r1
        obtain ⟨vs, g1⟩ := id k1
        exact ⟨t1, p1, vs, rfl, (g1 _ _ (Pk.refl e1.sub)).1, AnsW.here e1.sub q1 _ (wk_enumX k1)⟩⟩
theorem rng_of {u v : D} {xs : List D} (h : rng u v = .ok xs) : ∃ i j, u = .int i ∧ v = .int j ∧ (-(2 ^ 62) ≤ i ∧ i < 2 ^ 62 ∧ -(2 ^ 62) ≤ j ∧ j < 2 ^ 62) ∧ xs = rangeD i (j - i).toNat := by
  unfold rng at h
  split at h
  · split at h
    · rename_i hz
      simp only [Bool.and_eq_true, decide_eq_true_eq] at hz
      obtain ⟨⟨⟨h1, h2⟩, h3⟩, h4⟩ := hz
      cases h
      exact ⟨_, _, rfl, rfl, ⟨h1, h2, h3, h4⟩, rfl⟩
    · cases h
  · cases h
theorem noX_rng (u v : D) : NoX (rng u v) := by unfold rng; split <;> (first | exact noX_ok | exact noX_no | exact noX_if noX_ok noX_no | exact noX_ofO)
theorem pi_rg1 {p : Pos} (hg : Gl X "range") (hm : X.mg "range" = none) (hs : shp a = true) (ha : PE X a (rdV X.K F0 H0 ea W false xa)) :
    PI X tgx (.Call (.Name "range" p) [a] [] pos) (rdI X.K F0 H0 ea W bor fun env => (xa env).bind fun u => rng (.int 0) u) :=
  PIi (pi_range1 hg hm (pa_cons ha pa_nil (shp_star hs _)) (shp_star hs _)) fun σ H R' ⟨F, env, r, q⟩ => ⟨F, env, r, q.bind fun u F1 H1 _ e1 q1 v1 r1 => by
      cases h : rng (.int 0) u with
      | no => rw [h] at q1; exact q1.elim
      | ex c => exact absurd h (noX_rng _ _ c)
      | ok xs =>
        rw [h] at q1
        obtain ⟨i, j, ei, ej, ⟨h1, h2, h3, h4⟩, rfl⟩ := rng_of h
        cases ei
        subst ej
        cases r1.b.int
        refine ⟨j, rfl, h3, h4, ?_⟩
        have := AnsW.here e1.sub q1 _ (wk_range 0 (j - 0).toNat)
        rw [Int.sub_zero] at this
        exact this⟩
theorem pi_rg2 {p : Pos} (hg : Gl X "range") (hm : X.mg "range" = none) (hs : shp a = true) (hs2 : shp b = true) (ha : PE X a (rdV X.K F0 H0 ea W false xa)) (hb : PE X b (rdV X.K F0 H0 ea W false xb)) :
    PI X tgx (.Call (.Name "range" p) [a, b] [] pos) (rdI X.K F0 H0 ea W bor fun env => (xa env).bind fun u => (xb env).bind fun v => rng u v) :=
  PIi (pi_range2 hg hm (pa_cons ha (pa_cons hb pa_nil (shp_star hs2 _)) (shp_star hs _)) (by rw [shp_star hs, shp_star hs2]; rfl) (by rw [shp_star hs2]; rfl)) fun σ H R' ⟨F, env, r, q⟩ => ⟨F, env, r, q.bind fun u F1 H1 _ e1 q1 v1 r1 => ⟨F1, env, r.grow e1, q1.bind fun v F2 H2 _ e2 q2 v2 r2 => by
      cases h : rng u v with
      | no => rw [h] at q2; exact q2.elim
      | ex c => exact absurd h (noX_rng _ _ c)
      | ok xs =>
        rw [h] at q2
        obtain ⟨i, j, ei, ej, hb, rfl⟩ := rng_of h
        subst ei ej
        cases r1.b.int
        cases r2.b.int
        exact ⟨i, j, rfl, hb, AnsW.here e2.sub q2 _ (wk_range i (j - i).toNat)⟩⟩⟩
end
end Fp

set_option Elab.async false
set_option linter.all false
set_option maxRecDepth 100000
set_option maxHeartbeats 2000000
/-! Comprehensions. -/
namespace Fp
open PySem PySem.Spec PyProof.Rows L2
abbrev WF : WD := fun _ _ _ => False
theorem lcGo_cons {f : D → R (Option D)} {x : D} {xs tot : List D} (h : lcGo f (x :: xs) = .ok tot) : ∃ r, lcGo f xs = .ok r ∧ ((f x = .ok none ∧ tot = r) ∨ ∃ y, f x = .ok (some y) ∧ tot = y :: r) := by
  simp only [lcGo] at h
  cases e : f x with
  | no => rw [e] at h; cases h
  | ex c => rw [e] at h; cases h
  | ok o =>
    rw [e] at h
    cases o with
    | none => exact ⟨tot, h, .inl ⟨rfl, rfl⟩⟩
    | some y =>
      dsimp only at h
      cases e2 : lcGo f xs with
      | ok r =>
        rw [e2] at h
        cases h
        exact ⟨r, rfl, .inr ⟨y, rfl, rfl⟩⟩
      | ex c => rw [e2] at h; cases h
      | no => rw [e2] at h; cases h
theorem lcGo_ex {f : D → R (Option D)} {c : Str} : ∀ xs, lcGo f xs ≠ .ex c
  | [], h => by cases h
  | x :: xs, h => by
    simp only [lcGo] at h
    split at h
    · split at h <;> cases h
    · exact lcGo_ex xs h
    · cases h
theorem lcGo2_cons {f : D → R (List D)} {x : D} {xs tot : List D} (h : lcGo2 f (x :: xs) = .ok tot) : ∃ ys r, lcGo2 f xs = .ok r ∧ f x = .ok ys ∧ tot = ys ++ r := by
  simp only [lcGo2] at h
  cases e : f x with
  | no => rw [e] at h; cases h
  | ex c => rw [e] at h; cases h
  | ok ys =>
    rw [e] at h
    dsimp only at h
    cases e2 : lcGo2 f xs with
    | ok r =>
      rw [e2] at h
      cases h
      exact ⟨ys, r, rfl, rfl, rfl⟩
    | ex c => rw [e2] at h; cases h
    | no => rw [e2] at h; cases h
theorem lcGo2_ex {f : D → R (List D)} {c : Str} : ∀ xs, lcGo2 f xs ≠ .ex c
  | [], h => by cases h
  | x :: xs, h => by
    simp only [lcGo2] at h
    split at h
    · split at h <;> cases h
    · cases h
section
variable {K : PySem.W.Frag} {F H F1 H1 F2 H2 : Hp}
/-- the new list changes; nothing that was there does -/
theorem Ext.mut {D : Addr} {o : HO} (e : Ext F H F1 H1) (hD : H D = none) (hF : F1 D = none) : Ext F H F1 (upd H1 D o) := by
  refine ⟨e.ff, fun b u q => ?_, fun b u q => ?_, e.new⟩
  · rw [upd_ne (ne_of_none q hD)]; exact e.hh b u q
  · rw [upd_ne (ne_of_none q hF)]; exact e.sub b u q
theorem ownP_map {N : List Str} {own : List Nat} : (ownP N own).map (·.2) = own := by
  unfold ownP
  rw [List.map_map]
  exact List.map_id own
/-- the comprehension's list so far -/
structure Acc (K : PySem.W.Frag) (F1 H1 : Hp) (D : Addr) (ys : List Fp.D) (F' H' : Hp) : Prop where
  fr : F' D = none
  at_ : ∃ acc, H' D = some (.lst acc) ∧ RpAll K F' acc ys
  ext : Ext F1 H1 F' H'
theorem Acc.grow {D : Addr} {ys : List Fp.D} (a : Acc K F H D ys F1 H1) (e : Ext F1 H1 F2 H2) : Acc K F H D ys F2 H2 := by
  obtain ⟨acc, h1, h2⟩ := a.at_
  exact ⟨e.keep h1 a.fr, ⟨acc, e.hh _ _ h1, h2.mono e.ff⟩, a.ext.trans e⟩
theorem Acc.start {D : Addr} (s : Same F H) (hD : H D = none) : Acc K F H D [] F (upd H D (.lst [])) :=
  ⟨s.free hD, ⟨[], upd_same, .nil⟩, (Ext.refl s).loose hD⟩
theorem Acc.add {D : Addr} {ys : List Fp.D} {y : Fp.D} {v : V} (a : Acc K F H D ys F1 H1) (hD : H D = none) (r : Rp K F1 v y) : ∃ acc, H1 D = some (.lst acc) ∧ acc.length = ys.length ∧ Acc K F H D (ys ++ [y]) F1 (upd H1 D (.lst (acc ++ [v]))) := by
  obtain ⟨acc, h1, h2⟩ := a.at_
  exact ⟨acc, h1, h2.length, a.fr, ⟨acc ++ [v], upd_same, h2.append (.cons r .nil)⟩, a.ext.mut hD a.fr⟩
end
section
variable {X : Cx} {F0 H0 : Hp} {ea : Ea} {W : WD} {elt tgx iterx : Expr} {ifs : List Expr} {scope : Scope} {own : List Nat} {pos : Pos} {tg : Tg} {xi : Fp.Env → R (List D)} {xt : Fp.Env → R Bool} {xe : Fp.Env → R D}
/-- what a turn makes of an item -/
def lcF (own : List Nat) (tg : Tg) (xt : Fp.Env → R Bool) (xe : Fp.Env → R D) (env : Fp.Env) : D → R (Option D) :=
  fun x => (asg tg x (wipeE env own)).bind fun env' => (xt env').bind fun k => if k = true then (xe env').bind fun y => .ok (some y) else .ok none
theorem lcF_ok {env : Fp.Env} {x : D} {o : Option D} (h : lcF own tg xt xe env x = .ok o) : ∃ env', asg tg x (wipeE env own) = .ok env' ∧ ((xt env' = .ok false ∧ o = none) ∨ ∃ y, xt env' = .ok true ∧ xe env' = .ok y ∧ o = some y) := by
  unfold lcF at h
  cases e : asg tg x (wipeE env own) with
  | no => rw [e] at h; cases h
  | ex c => rw [e] at h; cases h
  | ok env' =>
    rw [e, R.bind_ok] at h
    refine ⟨env', rfl, ?_⟩
    cases e2 : xt env' with
    | no => rw [e2] at h; cases h
    | ex c => rw [e2] at h; cases h
    | ok k =>
      rw [e2, R.bind_ok] at h
      cases k with
      | false => cases h; exact .inl ⟨rfl, rfl⟩
      | true =>
        rw [if_pos rfl] at h
        cases e3 : xe env' with
        | no => rw [e3] at h; cases h
        | ex c => rw [e3] at h; cases h
        | ok y => rw [e3] at h; cases h; exact .inr ⟨y, rfl, rfl, rfl⟩
theorem lc_imp {N : List Str} (hsub : ∀ i ∈ tgv tg, i ∈ own) : ∀ σ H Q, rdG X.K F0 H0 ea W (fun env => (xi env).bind fun xs => (lcGo (lcF own tg xt xe env) xs).bind fun ys => if ys.length ≤ 16777216 then .ok (.list ys) else .no) σ H Q →
    tLc (rdI X.K F0 H0 ea W true xi) (rdP X.K F0 H0 ea tg) (rdT X.K F0 H0 ea WF xt) (rdV X.K F0 H0 ea WF false xe) ((ownP N own).map (·.2)) σ H Q := by
  intro σ H Q ⟨F, env, r, q⟩
  refine ⟨F, env, r, q.bind fun xs F1 H1 _ e1 q1 J wk => ?_⟩
  rw [ownP_map]
  intro D hD
  -- the whole is reckoned
  cases h : lcGo (lcF own tg xt xe env) xs with
  | no => rw [h] at q1; exact q1.elim
  | ex c => exact absurd h (lcGo_ex xs)
  | ok tot =>
    rw [h, R.bind_ok] at q1
    by_cases hz : tot.length ≤ 16777216
    · rw [if_pos hz] at q1
      have hD0 : H D = none := e1.hh.free hD
      refine ⟨fun i m Hh => m = xs.length - i ∧ i ≤ xs.length ∧ ∃ F' ys rest, Acc X.K F1 H1 D ys F' Hh ∧ lcGo (lcF own tg xt xe env) (xs.drop i) = .ok rest ∧ ys ++ rest = tot,
        ⟨xs.length, by simp, Nat.zero_le _, F1, [], tot, .start e1.sub hD, by rw [List.drop_zero]; exact h, rfl⟩, ?_⟩
      rintro i m Hh ⟨rfl, hi, F', ys, rest, ac, hrest, htot⟩
      have pk : Pk true F1 H1 F' Hh := ac.ext
      by_cases hlt : i < xs.length
      · have hd : xs.drop i = xs[i] :: xs.drop (i + 1) := List.drop_eq_getElem_cons hlt
        rw [hd] at hrest
        obtain ⟨rest', hr', hcase⟩ := lcGo_cons hrest
        obtain ⟨g1, g2⟩ := wk.go i xs[i] F' Hh (List.getElem?_eq_getElem hlt) pk
        refine .inr ⟨g1, fun H' => ∃ F' ys rest, Acc X.K F1 H1 D ys F' H' ∧ lcGo (lcF own tg xt xe env) (xs.drop (i + 1)) = .ok rest ∧ ys ++ rest = tot,
          fun H' p => ⟨xs.length - (i + 1), by omega, rfl, hlt, p⟩, fun x H3 hy => ?_⟩
        obtain ⟨F3, e3, rx⟩ := g2 x H3 hy
        have hf : ∃ o, lcF own tg xt xe env xs[i] = .ok o := by
          rcases hcase with ⟨h1, _⟩ | ⟨y, h1, _⟩
          · exact ⟨_, h1⟩
          · exact ⟨_, h1⟩
        obtain ⟨o, hf⟩ := hf
        obtain ⟨env', ha, hk⟩ := lcF_ok hf
        have ac3 := ac.grow e3
        have r3 : Rel X.K F0 H0 ea (wipeE env own) (L2.wipe σ own) F3 H3 := ((r.grow e1).grow ac3.ext).wipe own
        refine ⟨F3, wipeE env own, xs[i], env', r3, rx, ha, fun σ' r' hw _ => ⟨?_, F3, env', r', ?_⟩⟩
        · rw [wipe_sub hsub hw]; exact wipe_wipe
        · rcases hk with ⟨hk, ho⟩ | ⟨y, hk, hyy, ho⟩
          · rw [hk]
            refine fun F4 H4 e4 => ?_
            show ite (_ = true) _ _; rw [if_neg Bool.false_ne_true]
            refine ⟨F4, ys, rest, ac3.grow e4, ?_, htot⟩
            rcases hcase with ⟨h1, h2⟩ | ⟨y, h1, _⟩
            · rw [h2]; exact hr'
            · rw [h1] at hf; cases hf; cases ho
          · rw [hk]
            refine fun F4 H4 e4 => ?_
            show ite (_ = true) _ _; rw [if_pos rfl]
            refine ⟨F4, env', r'.grow e4, ?_⟩
            rw [hyy]
            intro F5 H5 e5 v rv
            have rv : Rp X.K F5 v y := rv
            have ac5 := (ac3.grow e4).grow e5
            obtain ⟨acc, a1, a2, a3⟩ := ac5.add hD rv
            rcases hcase with ⟨h1, h2⟩ | ⟨y', h1, h2⟩
            · rw [h1] at hf; cases hf; cases ho
            · rw [h1] at hf; cases hf; cases ho
              refine ⟨acc, a1, ?_, F5, ys ++ [y], rest', a3, hr', ?_⟩
              · rw [sz_eq, a2]
                have := congrArg List.length htot
                rw [h2, List.length_append, List.length_cons] at this
                omega
              · rw [List.append_assoc]
                show ys ++ (_ :: rest') = tot
                rw [← h2]; exact htot
      · have e : i = xs.length := by omega
        subst e
        rw [List.drop_eq_nil_of_le (Nat.le_refl _)] at hrest
        cases hrest
        rw [List.append_nil] at htot
        subst htot
        obtain ⟨acc, a1, a2⟩ := ac.at_
        exact .inl ⟨wk.stop F' Hh pk, (q1 F' Hh ac.ext).2 ys D acc rfl hD0 a1 ac.fr a2⟩
    · rw [if_neg hz] at q1; exact q1.elim
theorem pe_lcD (hc : X.calm = true) (hN : X.N.Nodup) (ok : blkC X.N X.env.scope scope (ownP X.N own) = true) (hsub : ∀ i ∈ tgv tg, i ∈ own) (hsx : shp iterx = true)
    (hi : PI X tgx iterx (rdI X.K F0 H0 ea W true xi))
    (hg : ∀ (s : Shared) (H : Hp) (C : Addr) (cl : List (Str × Addr)) (fp : List Addr), PG (X.blk s H scope (compEnvC scope cl C X.env) fp) tgx (rdP X.K F0 H0 ea tg))
    (ht : ∀ (s : Shared) (H : Hp) (C : Addr) (cl : List (Str × Addr)) (fp : List Addr), PTs (X.blk s H scope (compEnvC scope cl C X.env) fp) ifs (rdT X.K F0 H0 ea WF xt))
    (he : ∀ (s : Shared) (H : Hp) (C : Addr) (cl : List (Str × Addr)) (fp : List Addr), PE (X.blk s H scope (compEnvC scope cl C X.env) fp) elt (rdV X.K F0 H0 ea WF false xe)) :
    PE X (.ListComp elt [⟨tgx, iterx, ifs, 0⟩] scope pos) (rdG X.K F0 H0 ea W fun env => (xi env).bind fun xs => (lcGo (lcF own tg xt xe env) xs).bind fun ys => if ys.length ≤ 16777216 then .ok (.list ys) else .no) :=
  PEi (pe_lc hc hN hi (blkOk_by ok) hg ht he (shp_fold hsx)) (lc_imp hsub)
theorem set_lcD {i : Nat} {y : Str} {py spos : Pos} (hy : X.N[i]? = some y) (hyl : X.env.scope.names.lookup y = some .local) (hsw : swapsWith (.ListComp elt [⟨tgx, iterx, ifs, 0⟩] scope pos) (some (.Name y py)) spos.line X.env = pure true) (hc : X.calm = true) (hN : X.N.Nodup) (ok : blkC X.N X.env.scope scope (ownP X.N own) = true) (hsub : ∀ i ∈ tgv tg, i ∈ own) (hsx : shp iterx = true)
    (hi : PI X tgx iterx (rdI X.K F0 H0 ea W true xi))
    (hg : ∀ (s : Shared) (H : Hp) (C : Addr) (cl : List (Str × Addr)) (fp : List Addr), PG (X.blk s H scope (compEnvC scope cl C X.env) fp) tgx (rdP X.K F0 H0 ea tg))
    (ht : ∀ (s : Shared) (H : Hp) (C : Addr) (cl : List (Str × Addr)) (fp : List Addr), PTs (X.blk s H scope (compEnvC scope cl C X.env) fp) ifs (rdT X.K F0 H0 ea WF xt))
    (he : ∀ (s : Shared) (H : Hp) (C : Addr) (cl : List (Str × Addr)) (fp : List Addr), PE (X.blk s H scope (compEnvC scope cl C X.env) fp) elt (rdV X.K F0 H0 ea WF false xe)) :
    PS X (.Assign [.Name y py] (.ListComp elt [⟨tgx, iterx, ifs, 0⟩] scope pos) spos)
      (tAsg (rdG X.K F0 H0 ea W fun env => (xi env).bind fun xs => (lcGo (lcF own tg xt xe env) xs).bind fun ys => if ys.length ≤ 16777216 then .ok (.list ys) else .no) (gName i)) := by
  have h := ps_setLc hc hN hy hyl hsw hi (blkOk_by ok) hg ht he (shp_fold hsx)
  exact ⟨fun pins s σ H D I q => h.run pins s σ H D I (lc_imp hsub σ H _ q)⟩
/-! ### two clauses -/
/-- a state of a block, where the new list has changed -/
theorem Rel.shift {K : PySem.W.Frag} {F H F1 H1 F2 H2 F3 H3 : Hp} {env env' : Fp.Env} {σ σ' : L2.St} (r : Rel K F0 H0 ea env σ F H) (r' : Rel K F0 H0 ea env' σ' F1 H1) (o : OwnSub env' σ' env σ) (e1 : Ext F H F1 H1) (e2 : Ext F H F2 H2) (ff : Same F1 F2) :
    Rel K F0 H0 ea env' σ' F2 H2 := by
  refine ⟨r.ext.trans e2, r'.len, fun i s x h1 h2 => ?_, r'.apart⟩
  have q := r'.slot i s x h1 h2
  cases s with
  | un => trivial
  | exc c => exact q
  | val d =>
    obtain ⟨v, h1, h2⟩ := q
    exact ⟨v, h1, h2.mono ff⟩
  | own d =>
    obtain ⟨a, oo, q1, q2, q3, q4, q5⟩ := q
    subst q1
    obtain ⟨⟨d', o1⟩, o2⟩ := o i a ⟨d, h1⟩ h2
    obtain ⟨x2, w1, a', o', w2, w3, w4, w5, w6⟩ := r.at o1
    subst w2
    rw [o2] at w1
    cases w1
    have : H1 a = some o' := e1.hh _ _ w6
    rw [q5] at this
    cases this
    exact ⟨a, oo, rfl, q2.mono ff, e2.keep w6 w4, q4, e2.hh _ _ w6⟩
variable {tgx2 iterx2 : Expr} {ifs2 : List Expr} {tg2 : Tg} {xi2 : Fp.Env → R (List D)} {xt2 : Fp.Env → R Bool}
def lcF2 (own : List Nat) (tg : Tg) (xt : Fp.Env → R Bool) (xi2 : Fp.Env → R (List D)) (tg2 : Tg) (xt2 : Fp.Env → R Bool) (xe : Fp.Env → R D) (env : Fp.Env) : D → R (List D) :=
  fun x => (asg tg x (wipeE env own)).bind fun env' => (xt env').bind fun k => if k = true then (xi2 env').bind fun zs => lcGo (lcF (tgv tg2) tg2 xt2 xe env') zs else .ok []
theorem lcF2_ok {env : Fp.Env} {x : D} {ys : List D} (h : lcF2 own tg xt xi2 tg2 xt2 xe env x = .ok ys) : ∃ env', asg tg x (wipeE env own) = .ok env' ∧ ((xt env' = .ok false ∧ ys = []) ∨ ∃ zs, xt env' = .ok true ∧ xi2 env' = .ok zs ∧ lcGo (lcF (tgv tg2) tg2 xt2 xe env') zs = .ok ys) := by
  unfold lcF2 at h
  cases e : asg tg x (wipeE env own) with
  | no => rw [e] at h; cases h
  | ex c => rw [e] at h; cases h
  | ok env' =>
    rw [e, R.bind_ok] at h
    refine ⟨env', rfl, ?_⟩
    cases e2 : xt env' with
    | no => rw [e2] at h; cases h
    | ex c => rw [e2] at h; cases h
    | ok k =>
      rw [e2, R.bind_ok] at h
      cases k with
      | false => cases h; exact .inl ⟨rfl, rfl⟩
      | true =>
        rw [if_pos rfl] at h
        cases e3 : xi2 env' with
        | no => rw [e3] at h; cases h
        | ex c => rw [e3] at h; cases h
        | ok zs => rw [e3] at h; exact .inr ⟨zs, rfl, rfl, h⟩
theorem lc2_imp {N : List Str} (hsub : ∀ i ∈ tgv tg, i ∈ own) (hsub2 : ∀ i ∈ tgv tg2, i ∈ own) : ∀ σ H Q, rdG X.K F0 H0 ea W (fun env => (xi env).bind fun xs => (lcGo2 (lcF2 own tg xt xi2 tg2 xt2 xe env) xs).bind fun ys => if ys.length ≤ 16777216 then .ok (.list ys) else .no) σ H Q →
    tLc2 (rdI X.K F0 H0 ea W true xi) (rdP X.K F0 H0 ea tg) (rdT X.K F0 H0 ea WF xt) (rdI X.K F0 H0 ea WF false xi2) (rdP X.K F0 H0 ea tg2) (rdT X.K F0 H0 ea WF xt2) (rdV X.K F0 H0 ea WF false xe) ((ownP N own).map (·.2)) (tgv tg2) σ H Q := by
  intro σ H Q ⟨F, env, r, q⟩
  refine ⟨F, env, r, q.bind fun xs F1 H1 _ e1 q1 J wk => ?_⟩
  rw [ownP_map]
  intro D hD
  cases h : lcGo2 (lcF2 own tg xt xi2 tg2 xt2 xe env) xs with
  | no => rw [h] at q1; exact q1.elim
  | ex c => exact absurd h (lcGo2_ex xs)
  | ok tot =>
    rw [h, R.bind_ok] at q1
    by_cases hz : tot.length ≤ 16777216
    · rw [if_pos hz] at q1
      have hD0 : H D = none := e1.hh.free hD
      refine ⟨fun i m Hh => m = xs.length - i ∧ i ≤ xs.length ∧ ∃ F' ys rest, Acc X.K F1 H1 D ys F' Hh ∧ lcGo2 (lcF2 own tg xt xi2 tg2 xt2 xe env) (xs.drop i) = .ok rest ∧ ys ++ rest = tot,
        ⟨xs.length, by simp, Nat.zero_le _, F1, [], tot, .start e1.sub hD, by rw [List.drop_zero]; exact h, rfl⟩, ?_⟩
      rintro i m Hh ⟨rfl, hi, F', ys, rest, ac, hrest, htot⟩
      have pk : Pk true F1 H1 F' Hh := ac.ext
      by_cases hlt : i < xs.length
      · have hd : xs.drop i = xs[i] :: xs.drop (i + 1) := List.drop_eq_getElem_cons hlt
        rw [hd] at hrest
        obtain ⟨zsum, rest', hr', hf, hsum⟩ := lcGo2_cons hrest
        obtain ⟨g1, g2⟩ := wk.go i xs[i] F' Hh (List.getElem?_eq_getElem hlt) pk
        refine .inr ⟨g1, fun H' => ∃ F' ys rest, Acc X.K F1 H1 D ys F' H' ∧ lcGo2 (lcF2 own tg xt xi2 tg2 xt2 xe env) (xs.drop (i + 1)) = .ok rest ∧ ys ++ rest = tot,
          fun H' p => ⟨xs.length - (i + 1), by omega, rfl, hlt, p⟩, fun x H3 hy => ?_⟩
        obtain ⟨F3, e3, rx⟩ := g2 x H3 hy
        obtain ⟨env', ha, hk⟩ := lcF2_ok hf
        have ac3 := ac.grow e3
        have rb := r.grow e1
        have rw1 := rb.wipe own
        have r3 : Rel X.K F0 H0 ea (wipeE env own) (L2.wipe σ own) F3 H3 := (rb.grow ac3.ext).wipe own
        refine ⟨F3, wipeE env own, xs[i], env', r3, rx, ha, fun σ' r' hw os' => ⟨?_, F3, env', r', ?_⟩⟩
        · rw [wipe_sub hsub hw]; exact wipe_wipe
        · rcases hk with ⟨hk, ho⟩ | ⟨zs, hk, hzs, hgo⟩
          · rw [hk]
            refine fun F4 H4 e4 => ?_
            show ite (_ = true) _ _; rw [if_neg Bool.false_ne_true]
            refine ⟨F4, ys, rest', ac3.grow e4, hr', ?_⟩
            rw [hsum, ho] at htot
            exact htot
          · rw [hk]
            refine fun F4 H4 e4 => ?_
            show ite (_ = true) _ _; rw [if_pos rfl]
            refine ⟨F4, env', r'.grow e4, ?_⟩
            rw [hzs]
            intro F5 H5 e5 J1 wk1
            have ac5 := (ac3.grow e4).grow e5
            have r5 := (r'.grow e4).grow e5
            refine ⟨fun j k Hk => k = zs.length - j ∧ j ≤ zs.length ∧ ∃ F' ys' rest1, Same F5 F' ∧ Acc X.K F1 H1 D ys' F' Hk ∧ lcGo (lcF (tgv tg2) tg2 xt2 xe env') (zs.drop j) = .ok rest1 ∧ ys' ++ rest1 = ys ++ zsum,
              ⟨zs.length, by simp, Nat.zero_le _, F5, ys, zsum, Same.refl _, ac5, by rw [List.drop_zero]; exact hgo, rfl⟩, ?_⟩
            rintro j k Hk ⟨rfl, hj, F6, ys', rest1, ff6, ac6, hr1, ht1⟩
            have pk1 : Pk false F5 H5 F6 Hk := ⟨ff6, ac6.ext.sub⟩
            by_cases hjl : j < zs.length
            · have hd1 : zs.drop j = zs[j] :: zs.drop (j + 1) := List.drop_eq_getElem_cons hjl
              rw [hd1] at hr1
              obtain ⟨rest2, hr2, hcase⟩ := lcGo_cons hr1
              obtain ⟨k1, k2⟩ := wk1.go j zs[j] F6 Hk (List.getElem?_eq_getElem hjl) pk1
              refine .inr ⟨k1, fun H' => ∃ F' ys' rest1, Same F5 F' ∧ Acc X.K F1 H1 D ys' F' H' ∧ lcGo (lcF (tgv tg2) tg2 xt2 xe env') (zs.drop (j + 1)) = .ok rest1 ∧ ys' ++ rest1 = ys ++ zsum,
                fun H' p => ⟨zs.length - (j + 1), by omega, rfl, hjl, p⟩, fun z H7 hyz => ?_⟩
              obtain ⟨F7, e7, rz⟩ := k2 z H7 hyz
              have hff : ∃ o, lcF (tgv tg2) tg2 xt2 xe env' zs[j] = .ok o := by
                rcases hcase with ⟨h1, _⟩ | ⟨y, h1, _⟩
                · exact ⟨_, h1⟩
                · exact ⟨_, h1⟩
              obtain ⟨o, hff⟩ := hff
              obtain ⟨env2, ha2, hk2⟩ := lcF_ok hff
              have ac7 := ac6.grow e7
              have r7 : Rel X.K F0 H0 ea env' σ' F7 H7 := Rel.shift (F3 := F7) (H3 := H7) rw1 r5 os' ac5.ext ac7.ext (ff6.trans e7.ff)
              refine ⟨F7, wipeE env' (tgv tg2), zs[j], env2, r7.wipe _, rz, ha2, fun σ2 r2 hw2 _ => ⟨?_, F7, env2, r2, ?_⟩⟩
              · rw [hw2]; exact wipe_wipe
              · rcases hk2 with ⟨hk2, ho2⟩ | ⟨y, hk2, hyy, ho2⟩
                · rw [hk2]
                  refine fun F8 H8 e8 => ?_
                  show ite (_ = true) _ _; rw [if_neg Bool.false_ne_true]
                  refine ⟨F8, ys', rest2, (ff6.trans e7.ff).trans e8.ff, ac7.grow e8, hr2, ?_⟩
                  rcases hcase with ⟨h1, h2⟩ | ⟨y, h1, _⟩
                  · rw [← h2]; exact ht1
                  · rw [h1] at hff; cases hff; cases ho2
                · rw [hk2]
                  refine fun F8 H8 e8 => ?_
                  show ite (_ = true) _ _; rw [if_pos rfl]
                  refine ⟨F8, env2, r2.grow e8, ?_⟩
                  rw [hyy]
                  intro F9 H9 e9 v rv
                  have rv : Rp X.K F9 v y := rv
                  have ac9 := (ac7.grow e8).grow e9
                  obtain ⟨acc, a1, a2, a3⟩ := ac9.add hD rv
                  rcases hcase with ⟨h1, h2⟩ | ⟨y', h1, h2⟩
                  · rw [h1] at hff; cases hff; cases ho2
                  · rw [h1] at hff; cases hff; cases ho2
                    refine ⟨acc, a1, ?_, F9, ys' ++ [y], rest2, ((ff6.trans e7.ff).trans e8.ff).trans e9.ff, a3, hr2, ?_⟩
                    · rw [sz_eq, a2]
                      have l1 := congrArg List.length ht1
                      have l2 := congrArg List.length htot
                      rw [h2, List.length_append, List.length_cons, List.length_append] at l1
                      rw [hsum, List.length_append, List.length_append] at l2
                      omega
                    · rw [List.append_assoc]
                      show ys' ++ (_ :: rest2) = _
                      rw [← h2]; exact ht1
            · have e : j = zs.length := by omega
              subst e
              rw [List.drop_eq_nil_of_le (Nat.le_refl _)] at hr1
              cases hr1
              rw [List.append_nil] at ht1
              subst ht1
              refine .inl ⟨wk1.stop F6 Hk pk1, F6, ys ++ zsum, rest', ac6, hr', ?_⟩
              rw [List.append_assoc, ← hsum]; exact htot
      · have e : i = xs.length := by omega
        subst e
        rw [List.drop_eq_nil_of_le (Nat.le_refl _)] at hrest
        cases hrest
        rw [List.append_nil] at htot
        subst htot
        obtain ⟨acc, a1, a2⟩ := ac.at_
        exact .inl ⟨wk.stop F' Hh pk, (q1 F' Hh ac.ext).2 ys D acc rfl hD0 a1 ac.fr a2⟩
    · rw [if_neg hz] at q1; exact q1.elim
theorem pe_lc2D (hc : X.calm = true) (hN : X.N.Nodup) (ok : blkC X.N X.env.scope scope (ownP X.N own) = true) (hsub : ∀ i ∈ tgv tg, i ∈ own) (hsub2 : ∀ i ∈ tgv tg2, i ∈ own) (hsx : shp iterx = true) (hsx2 : shp iterx2 = true)
    (hi : PI X tgx iterx (rdI X.K F0 H0 ea W true xi))
    (hg : ∀ (s : Shared) (H : Hp) (C : Addr) (cl : List (Str × Addr)) (fp : List Addr), PG (X.blk s H scope (compEnvC scope cl C X.env) fp) tgx (rdP X.K F0 H0 ea tg))
    (ht : ∀ (s : Shared) (H : Hp) (C : Addr) (cl : List (Str × Addr)) (fp : List Addr), PTs (X.blk s H scope (compEnvC scope cl C X.env) fp) ifs (rdT X.K F0 H0 ea WF xt))
    (hi2 : ∀ (s : Shared) (H : Hp) (C : Addr) (cl : List (Str × Addr)) (fp : List Addr), PI (X.blk s H scope (compEnvC scope cl C X.env) fp) tgx2 iterx2 (rdI X.K F0 H0 ea WF false xi2))
    (hg2 : ∀ (s : Shared) (H : Hp) (C : Addr) (cl : List (Str × Addr)) (fp : List Addr), PG (X.blk s H scope (compEnvC scope cl C X.env) fp) tgx2 (rdP X.K F0 H0 ea tg2))
    (ht2 : ∀ (s : Shared) (H : Hp) (C : Addr) (cl : List (Str × Addr)) (fp : List Addr), PTs (X.blk s H scope (compEnvC scope cl C X.env) fp) ifs2 (rdT X.K F0 H0 ea WF xt2))
    (he : ∀ (s : Shared) (H : Hp) (C : Addr) (cl : List (Str × Addr)) (fp : List Addr), PE (X.blk s H scope (compEnvC scope cl C X.env) fp) elt (rdV X.K F0 H0 ea WF false xe)) :
    PE X (.ListComp elt [⟨tgx, iterx, ifs, 0⟩, ⟨tgx2, iterx2, ifs2, 0⟩] scope pos)
      (rdG X.K F0 H0 ea W fun env => (xi env).bind fun xs => (lcGo2 (lcF2 own tg xt xi2 tg2 xt2 xe env) xs).bind fun ys => if ys.length ≤ 16777216 then .ok (.list ys) else .no) :=
  PEi (pe_lc2 (vs1 := tgv tg2) hc hN hi (blkOk_by ok) (by rw [ownP_map]; exact hsub2) hg ht hi2 hg2 ht2 he (shp_fold hsx) (fun _ => shp_fold hsx2)) (lc2_imp hsub hsub2)
theorem set_lc2D {i : Nat} {y : Str} {py spos : Pos} (hy : X.N[i]? = some y) (hyl : X.env.scope.names.lookup y = some .local) (hsw : swapsWith (.ListComp elt [⟨tgx, iterx, ifs, 0⟩, ⟨tgx2, iterx2, ifs2, 0⟩] scope pos) (some (.Name y py)) spos.line X.env = pure true) (hc : X.calm = true) (hN : X.N.Nodup) (ok : blkC X.N X.env.scope scope (ownP X.N own) = true) (hsub : ∀ i ∈ tgv tg, i ∈ own) (hsub2 : ∀ i ∈ tgv tg2, i ∈ own) (hsx : shp iterx = true) (hsx2 : shp iterx2 = true)
    (hi : PI X tgx iterx (rdI X.K F0 H0 ea W true xi))
    (hg : ∀ (s : Shared) (H : Hp) (C : Addr) (cl : List (Str × Addr)) (fp : List Addr), PG (X.blk s H scope (compEnvC scope cl C X.env) fp) tgx (rdP X.K F0 H0 ea tg))
    (ht : ∀ (s : Shared) (H : Hp) (C : Addr) (cl : List (Str × Addr)) (fp : List Addr), PTs (X.blk s H scope (compEnvC scope cl C X.env) fp) ifs (rdT X.K F0 H0 ea WF xt))
    (hi2 : ∀ (s : Shared) (H : Hp) (C : Addr) (cl : List (Str × Addr)) (fp : List Addr), PI (X.blk s H scope (compEnvC scope cl C X.env) fp) tgx2 iterx2 (rdI X.K F0 H0 ea WF false xi2))
    (hg2 : ∀ (s : Shared) (H : Hp) (C : Addr) (cl : List (Str × Addr)) (fp : List Addr), PG (X.blk s H scope (compEnvC scope cl C X.env) fp) tgx2 (rdP X.K F0 H0 ea tg2))
    (ht2 : ∀ (s : Shared) (H : Hp) (C : Addr) (cl : List (Str × Addr)) (fp : List Addr), PTs (X.blk s H scope (compEnvC scope cl C X.env) fp) ifs2 (rdT X.K F0 H0 ea WF xt2))
    (he : ∀ (s : Shared) (H : Hp) (C : Addr) (cl : List (Str × Addr)) (fp : List Addr), PE (X.blk s H scope (compEnvC scope cl C X.env) fp) elt (rdV X.K F0 H0 ea WF false xe)) :
    PS X (.Assign [.Name y py] (.ListComp elt [⟨tgx, iterx, ifs, 0⟩, ⟨tgx2, iterx2, ifs2, 0⟩] scope pos) spos)
      (tAsg (rdG X.K F0 H0 ea W fun env => (xi env).bind fun xs => (lcGo2 (lcF2 own tg xt xi2 tg2 xt2 xe env) xs).bind fun ys => if ys.length ≤ 16777216 then .ok (.list ys) else .no) (gName i)) := by
  have h := ps_setLc2 (vs1 := tgv tg2) hc hN hy hyl hsw hi (blkOk_by ok) (by rw [ownP_map]; exact hsub2) hg ht hi2 hg2 ht2 he (shp_fold hsx) (fun _ => shp_fold hsx2)
  exact ⟨fun pins s σ H D I q => h.run pins s σ H D I (lc2_imp hsub hsub2 σ H _ q)⟩
end
end Fp

set_option Elab.async false
set_option linter.all false
set_option maxRecDepth 100000
set_option maxHeartbeats 2000000
/-! Dicts: keys texts, keys tuples (nested). -/
namespace Fp
open PySem PySem.Spec PyProof.Rows L2

/-! ### keys -/
section
variable {X : Cx} {pins : List (Addr × Obj)} {σ : L2.St} {H F : Hp} {s : Shared}
mutual
theorem nk_is (I : Inv X pins σ H s) (sm : Same F H) : ∀ {v : V} {d : D} {u : Value} {k : NestedKey}, Rp X.K F v d → RelV v u → nkey d = some k → NestedIs s.heap k u
  | _, _, u, k, .non, r, e => by
    have e := Option.some.inj e
    subst e
    obtain rfl : u = Value.none := r
    exact .none
  | _, _, u, k, .bl b, r, e => by
    have e := Option.some.inj e
    subst e
    obtain rfl : u = Value.bool b := r
    exact .bool rfl
  | _, _, u, k, .int i, r, e => by
    have e := Option.some.inj e
    subst e
    obtain ⟨t, rfl⟩ : ∃ t, u = Value.int i t := r
    exact .int i t
  | _, _, u, k, .str x, r, e => by
    have e := Option.some.inj e
    subst e
    obtain ⟨t, rfl⟩ : ∃ t, u = Value.str x t := r
    exact .text x t
  | _, _, u, k, .lst _ _, r, e => by cases e
  | _, _, u, k, .tup (a := a) h t, r, e => by
    rw [nkey] at e
    obtain ⟨ks, e1, e2⟩ := Option.map_eq_some_iff.mp e
    subst e2
    obtain rfl : u = Value.ref a := r
    obtain ⟨its, rv, ⟨o, ho, hc, n, hd⟩, _⟩ := I.tuple (TpX.mono sm h).sq
    exact .tup ho hc hd (nk_are I sm t rv e1)
theorem nk_are (I : Inv X pins σ H s) (sm : Same F H) : ∀ {vs : List V} {ds : List D} {us : List Value} {ks : List NestedKey}, RpAll X.K F vs ds → Vals vs us → nkeys ds = some ks → NestedAll s.heap ks us
  | _, _, _, ks, .nil, .nil, e => by
    have e := Option.some.inj e
    subst e
    exact .nil
  | _, _, _, ks, .cons h t, .cons r rr, e => by
    rw [nkeys] at e
    split at e
    · rename_i k ks' e1 e2
      have e := Option.some.inj e
      subst e
      exact .cons (nk_is I sm h r e1) (nk_are I sm t rr e2)
    · cases e
end
end
section
variable {K : PySem.W.Frag} {F : Hp}
theorem nkey_keyD (k : Key) : nkey (keyD k) = some (match k with
    | .inl i => .num i
    | .inr x => .text x) := by cases k <;> rfl
theorem kEq_key {k : Key} {z : Str} : kEq (keyD k) (.str z) = decide (k = .inr z) := by
  unfold kEq
  rw [nkey_keyD, show nkey (.str z) = some (.text z) from rfl]
  cases k with
  | inl i => rfl
  | inr x =>
    by_cases h : x = z
    · subst h; simp
    · have h1 : ¬ (NestedKey.text x = NestedKey.text z) := fun e => h (by injection e)
      have h2 : ¬ ((Sum.inr x : Key) = Sum.inr z) := fun e => h (by injection e)
      simp [h1, h2]
theorem RpKv.val {kvs : List (Key × V)} {ps : List (D × D)} (h : RpKv K F kvs ps) (z : Str) : (dFind ps (.str z) = none ∧ valV kvs (.inr z) = none) ∨ ∃ d v, dFind ps (.str z) = some d ∧ valV kvs (.inr z) = some v ∧ Rp K F v d := by
  induction h with
  | nil => exact .inl ⟨rfl, rfl⟩
  | @cons k v d kvs ps hv t ih =>
    by_cases e : k = .inr z
    · refine .inr ⟨d, v, ?_, valV_pos (p := (k, v)) e, hv⟩
      unfold dFind
      rw [List.find?_cons_of_pos (by show kEq (keyD k) (.str z) = true; rw [kEq_key]; exact decide_eq_true e)]
      rfl
    · rw [valV_neg (p := (k, v)) e]
      have : dFind ((keyD k, d) :: ps) (.str z) = dFind ps (.str z) := by
        unfold dFind
        rw [List.find?_cons_of_neg (by show ¬ kEq (keyD k) (.str z) = true; rw [kEq_key]; exact fun q => e (of_decide_eq_true q))]
      rw [this]
      exact ih
theorem RpKv.any {kvs : List (Key × V)} {ps : List (D × D)} (h : RpKv K F kvs ps) (z : Str) : (kvs.any fun kv => decide (kv.1 = .inr z)) = ps.any fun p => kEq p.1 (.str z) := by
  induction h with
  | nil => rfl
  | @cons k v d kvs ps hv t ih => rw [List.any_cons, List.any_cons, ih, kEq_key]
theorem RpKv.repl {kvs : List (Key × V)} {ps : List (D × D)} (h : RpKv K F kvs ps) (z : Str) {v : V} {d : D} (rv : Rp K F v d) :
    RpKv K F (kvs.map fun kv => if kv.1 = .inr z then (kv.1, v) else kv) (ps.map fun p => if kEq p.1 (.str z) = true then (p.1, d) else p) := by
  induction h with
  | nil => exact .nil
  | @cons k v' d' kvs ps hv t ih =>
    rw [List.map_cons, List.map_cons]
    by_cases e : k = .inr z
    · rw [if_pos e, if_pos (by show kEq (keyD k) (.str z) = true; rw [kEq_key]; exact decide_eq_true e)]
      exact .cons rv ih
    · rw [if_neg e, if_neg (by show ¬ kEq (keyD k) (.str z) = true; rw [kEq_key]; exact fun q => e (of_decide_eq_true q))]
      exact .cons hv ih
theorem RpKv.snoc {kvs : List (Key × V)} {ps : List (D × D)} (h : RpKv K F kvs ps) (z : Str) {v : V} {d : D} (rv : Rp K F v d) : RpKv K F (kvs ++ [(.inr z, v)]) (ps ++ [(.str z, d)]) := by
  induction h with
  | nil => exact .cons (k := .inr z) rv .nil
  | cons hv t ih => exact .cons hv ih
theorem RpKv.put {kvs : List (Key × V)} {ps : List (D × D)} (h : RpKv K F kvs ps) (z : Str) {v : V} {d : D} (rv : Rp K F v d) : RpKv K F (putK kvs (.inr z) v) (dStore ps (.str z) d) := by
  unfold putK dStore
  rw [h.any z]
  split
  · exact h.repl z rv
  · exact h.snoc z rv
theorem RpKv.length {kvs : List (Key × V)} {ps : List (D × D)} (h : RpKv K F kvs ps) : kvs.length = ps.length := by
  induction h with
  | nil => rfl
  | cons _ _ ih => rw [List.length_cons, List.length_cons, ih]
theorem kEq_t {dk kd : D} {k k' : NestedKey} (h : nkey dk = some k') (e : nkey kd = some k) : kEq dk kd = decide (k' = k) := by
  unfold kEq
  rw [h, e]
theorem RpKt.val {xs : List (NestedKey × Addr × Value)} {ps : List (D × D)} (h : RpKt K F xs ps) {kd : D} {k : NestedKey} (e : nkey kd = some k) : (dFind ps kd = none ∧ atKey xs k = none) ∨ ∃ d v p, dFind ps kd = some d ∧ atKey xs k = some p ∧ RelV v p.2 ∧ Rp K F v d := by
  induction h with
  | nil => exact .inl ⟨rfl, rfl⟩
  | @cons k' b u v dk d xs ps h1 h2 h3 h4 h5 t ih =>
    by_cases q : k' = k
    · refine .inr ⟨d, v, (b, u), ?_, ?_, h4, h5⟩
      · unfold dFind
        rw [List.find?_cons_of_pos (by show kEq dk kd = true; rw [kEq_t h1 e]; exact decide_eq_true q)]
        rfl
      · unfold atKey
        rw [List.find?_cons_of_pos (by exact decide_eq_true q)]
        rfl
    · have e1 : dFind ((dk, d) :: ps) kd = dFind ps kd := by
        unfold dFind
        rw [List.find?_cons_of_neg (by show ¬ kEq dk kd = true; rw [kEq_t h1 e]; exact fun z => q (of_decide_eq_true z))]
      have e2 : atKey ((k', b, u) :: xs) k = atKey xs k := by
        unfold atKey
        rw [List.find?_cons_of_neg (by exact fun z => q (of_decide_eq_true z))]
      rw [e1, e2]
      exact ih
theorem RpKt.any {xs : List (NestedKey × Addr × Value)} {ps : List (D × D)} (h : RpKt K F xs ps) {kd : D} {k : NestedKey} (e : nkey kd = some k) : (ps.any fun p => kEq p.1 kd) = (atKey xs k).isSome := by
  induction h with
  | nil => rfl
  | @cons k' b u v dk d xs ps h1 h2 h3 h4 h5 t ih =>
    rw [List.any_cons, ih, kEq_t h1 e]
    by_cases q : k' = k
    · have : atKey ((k', b, u) :: xs) k = some (b, u) := by
        unfold atKey
        rw [List.find?_cons_of_pos (by exact decide_eq_true q)]
        rfl
      rw [this, decide_eq_true q]
      rfl
    · have e2 : atKey ((k', b, u) :: xs) k = atKey xs k := by
        unfold atKey
        rw [List.find?_cons_of_neg (by exact fun z => q (of_decide_eq_true z))]
      rw [e2, decide_eq_false q, Bool.false_or]
theorem RpKt.repl {xs : List (NestedKey × Addr × Value)} {ps : List (D × D)} (h : RpKt K F xs ps) {kd : D} {k : NestedKey} (e : nkey kd = some k) {v : V} {u : Value} {d : D} (rv : RelV v u) (rp : Rp K F v d) :
    RpKt K F (xs.map (putAt k u)) (ps.map fun p => if kEq p.1 kd = true then (p.1, d) else p) := by
  induction h with
  | nil => exact .nil
  | @cons k' b u' v' dk d' xs ps h1 h2 h3 h4 h5 t ih =>
    rw [List.map_cons, List.map_cons]
    unfold putAt
    by_cases q : k' = k
    · rw [if_pos q, if_pos (by show kEq dk kd = true; rw [kEq_t h1 e]; exact decide_eq_true q)]
      exact .cons h1 h2 h3 rv rp ih
    · rw [if_neg q, if_neg (by show ¬ kEq dk kd = true; rw [kEq_t h1 e]; exact fun z => q (of_decide_eq_true z))]
      exact .cons h1 h2 h3 h4 h5 ih
theorem RpKt.snoc {xs : List (NestedKey × Addr × Value)} {ps : List (D × D)} (h : RpKt K F xs ps) {kd : D} {k : NestedKey} (e : nkey kd = some k) (hk : okK true kd = true) {b : Addr} {v : V} {u : Value} {d : D} (rb : Rp K F (.ref b) kd) (rv : RelV v u) (rp : Rp K F v d) :
    RpKt K F (xs ++ [(k, b, u)]) (ps ++ [(kd, d)]) := by
  induction h with
  | nil => exact .cons e hk rb rv rp .nil
  | cons h1 h2 h3 h4 h5 t ih => exact .cons h1 h2 h3 h4 h5 ih
theorem RpKt.put {xs : List (NestedKey × Addr × Value)} {ps : List (D × D)} (h : RpKt K F xs ps) {kd : D} {k : NestedKey} (e : nkey kd = some k) (hk : okK true kd = true) {b : Addr} {v : V} {u : Value} {d : D} (rb : Rp K F (.ref b) kd) (rv : RelV v u) (rp : Rp K F v d) :
    RpKt K F (storedH xs k b u) (dStore ps kd d) := by
  unfold storedH dStore
  rw [h.any e]
  split
  · exact h.repl e rv rp
  · exact h.snoc e hk rb rv rp
theorem RpKt.length {xs : List (NestedKey × Addr × Value)} {ps : List (D × D)} (h : RpKt K F xs ps) : xs.length = ps.length := by
  induction h with
  | nil => rfl
  | cons _ _ _ _ _ _ ih => rw [List.length_cons, List.length_cons, ih]
end
section
variable {X : Cx} {pins : List (Addr × Obj)} {σ : L2.St} {H F : Hp} {s : Shared}
theorem key_t (I : Inv X pins σ H s) (sm : Same F H) {v : V} {d : D} {u : Value} (hk : okK true d = true) (rp : Rp X.K F v d) (r : RelV v u) : ∃ b k, v = .ref b ∧ u = .ref b ∧ nkey d = some k ∧ (nestedKind X.prog X.w).is s.heap k b := by
  cases d with
  | tuple xs =>
    have hk' : (match nkey (.tuple xs) with
        | some k => decide (k.depth ≤ 8)
        | none => false) = true := hk
    split at hk'
    · rename_i k e
      have hkd := of_decide_eq_true hk'
      cases rp with
      | tup h t =>
        rename_i a vs
        obtain rfl : u = Value.ref a := r
        exact ⟨a, k, rfl, rfl, e, nk_is I sm (.tup h t) (show RelV (.ref a) (.ref a) from rfl) e, hkd⟩
    · cases hk'
  | _ => cases hk
theorem keyAll (I : Inv X pins σ H s) (sm : Same F H) {xs : List (NestedKey × Addr × Value)} {ps : List (D × D)} (h : RpKt X.K F xs ps) : ∀ x ∈ xs, (nestedKind X.prog X.w).is s.heap x.1 x.2.1 := by
  induction h with
  | nil => exact fun x hx => nomatch hx
  | @cons k b u v dk d xs ps h1 h2 h3 h4 h5 t ih =>
    intro x hx
    rcases List.mem_cons.mp hx with rfl | hx
    · obtain ⟨b', k', e1, e2, e3, e4⟩ := key_t I sm h2 h3 (show RelV (.ref b) (.ref b) from rfl)
      cases e1
      rw [h1] at e3
      cases e3
      exact e4
    · exact ih x hx
theorem dit_of (I : Inv X pins σ H s) (sm : Same F H) {a : Addr} {xs : List (NestedKey × Addr × Value)} {ps : List (D × D)} (hH : H a = some (DtO X.prog X.w a xs)) (h : RpKt X.K F xs ps) : s.heap.DictOfH (nestedKind X.prog X.w) a xs ∧ xs.length ≤ sizeLine ∧ (a == sysModules) = false := by
  obtain ⟨h1, h2, h3, o, es, ep, h4, h5, h6, h7⟩ := (I.hok a _ hH).1
  exact ⟨⟨o, es, ep, h4, h5, h6, h7, keyAll I sm h, h3⟩, h1, h2⟩
theorem dit_new {P : Program} {w : World} {H' : Hp} {h' : Heap} {a : Addr} {xs : List (NestedKey × Addr × Value)} (z : xs.length ≤ sizeLine) (hd : (a == sysModules) = false) (dd : h'.DictOfH (nestedKind P w) a xs) : ObjOk P w H' h' a (DtO P w a xs) := by
  obtain ⟨o, es, ep, h4, h5, h6, h7, _, h3⟩ := dd
  refine ⟨⟨z, hd, h3, o, es, ep, h4, h5, h6, h7⟩, ⟨o, h4⟩, fun h1 h2 p k => ?_⟩
  obtain ⟨q1, q2, q3, o, es, ep, q4, q5, q6, q7⟩ := p
  exact ⟨q1, q2, q3, o, es, ep, k o q4, q5, q6, q7⟩
abbrev EaOk (X : Cx) (ea : Ea) : Prop := ea.P = X.prog ∧ ea.w = X.w
variable {ea : Ea} {A : Around} {E : Value → Shared → Prop}
theorem dic_typeIs (I : Inv X pins σ H s) (sm : Same F H) (ep : EaOk X ea) {a : Addr} {o : HO} {t : Bool} {ps : List (D × D)} (hH : H a = some o) (hd : DicO X.K F ea a t ps o) : s.TypeIs (.ref a) "dict" := by
  cases t with
  | false =>
    obtain ⟨kvs, rfl, h2⟩ := hd
    obtain ⟨_, _, vs, _, dd⟩ := dk_of I.hok hH
    exact dd.typeIs
  | true =>
    obtain ⟨xs, rfl, h2⟩ := hd
    rw [ep.1, ep.2] at hH
    exact (dit_of I sm hH h2).1.typeIs
theorem okN {kd : D} (h : okK false kd = true) : ∃ z, kd = .str z := by
  cases kd with
  | str z => exact ⟨z, rfl⟩
  | _ => exact nomatch (show false = true from h)
theorem room_t (hu : A.units + 70 < cLine) : (nestedKind X.prog X.w).room A.in1 := by
  show A.units + 1 + 8 < cLine
  omega
/-- d[y] -/
theorem dic_get (hu : A.units + 70 < cLine) (I : Inv X pins σ H s) (sm : Same F H) (ep : EaOk X ea) {a : Addr} {o : HO} {t : Bool} {ps : List (D × D)} (hH : H a = some o) (hd : DicO X.K F ea a t ps o) {kd d : D} {y : V} {u : Value}
    (hk : okK t kd = true) (rp : Rp X.K F y kd) (ry : RelV y u) (hv : dFind ps kd = some d) {Q : Value → Shared → Prop} (h : ∀ w' v s', Inv X pins σ H s' → RelV v w' → Rp X.K F v d → Q w' s') : wpAny (model X.prog X.w) A (getItem (.ref a) u) Q E s := by
  cases t with
  | false =>
    obtain ⟨kvs, rfl, h2⟩ := hd
    obtain ⟨z, rfl⟩ := okN hk
    cases rp
    rcases h2.val z with ⟨e1, e2⟩ | ⟨d', v, e1, e2, e3⟩
    · rw [hv] at e1; cases e1
    · rw [hv] at e1
      cases e1
      exact d_getItem (by omega) I (by rw [← e2]; exact DGet.k (k := .inr z) hH) ry fun w' s' I' r' => h w' v s' I' r' e3
  | true =>
    obtain ⟨xs, rfl, h2⟩ := hd
    rw [ep.1, ep.2] at hH
    obtain ⟨dd, hz, hs⟩ := dit_of I sm hH h2
    obtain ⟨b, k, rfl, rfl, e3, hkey⟩ := key_t I sm hk rp ry
    rcases h2.val e3 with ⟨e1, e2⟩ | ⟨d', v, p, e1, e2, e4, e5⟩
    · rw [hv] at e1; cases e1
    · rw [hv] at e1
      cases e1
      exact wpAny_getItem_heap (room_t hu) hkey dd e2 (h p.2 v _ (I.tok _) e4 e5)
theorem dic_in (hu : A.units + 70 < cLine) (I : Inv X pins σ H s) (sm : Same F H) (ep : EaOk X ea) {a : Addr} {o : HO} {t : Bool} {ps : List (D × D)} (hH : H a = some o) (hd : DicO X.K F ea a t ps o) {kd : D} {y : V} {u : Value}
    (hk : okK t kd = true) (rp : Rp X.K F y kd) (ry : RelV y u) {Q : Value → Shared → Prop} (h : ∀ s', Inv X pins σ H s' → Q (.bool (dFind ps kd).isSome) s') : wpAny (model X.prog X.w) A (compareOp .In u (.ref a)) Q E s := by
  cases t with
  | false =>
    obtain ⟨kvs, rfl, h2⟩ := hd
    obtain ⟨z, rfl⟩ := okN hk
    cases rp
    refine d_in (by omega) I (DGet.k (k := .inr z) hH) ry fun s' I' => ?_
    have := h s' I'
    rcases h2.val z with ⟨e1, e2⟩ | ⟨d', v, e1, e2, e3⟩
    · rw [e1] at this; rw [e2]; exact this
    · rw [e1] at this; rw [e2]; exact this
  | true =>
    obtain ⟨xs, rfl, h2⟩ := hd
    rw [ep.1, ep.2] at hH
    obtain ⟨dd, hz, hs⟩ := dit_of I sm hH h2
    obtain ⟨b, k, rfl, rfl, e3, hkey⟩ := key_t I sm hk rp ry
    refine wpAny_in_heap (room_t hu) hkey hs dd ?_
    have := h _ (I.tok (s.toks + (nestedKind X.prog X.w).draws k))
    rcases h2.val e3 with ⟨e1, e2⟩ | ⟨d', v, p, e1, e2, e4, e5⟩
    · rw [e1] at this; rw [e2]; exact this
    · rw [e1] at this; rw [e2]; exact this
theorem dic_notIn (hu : A.units + 70 < cLine) (I : Inv X pins σ H s) (sm : Same F H) (ep : EaOk X ea) {a : Addr} {o : HO} {t : Bool} {ps : List (D × D)} (hH : H a = some o) (hd : DicO X.K F ea a t ps o) {kd : D} {y : V} {u : Value}
    (hk : okK t kd = true) (rp : Rp X.K F y kd) (ry : RelV y u) {Q : Value → Shared → Prop} (h : ∀ s', Inv X pins σ H s' → Q (.bool (!(dFind ps kd).isSome)) s') : wpAny (model X.prog X.w) A (compareOp .NotIn u (.ref a)) Q E s := by
  cases t with
  | false =>
    obtain ⟨kvs, rfl, h2⟩ := hd
    obtain ⟨z, rfl⟩ := okN hk
    cases rp
    refine d_notIn (by omega) I (DGet.k (k := .inr z) hH) ry fun s' I' => ?_
    have := h s' I'
    rcases h2.val z with ⟨e1, e2⟩ | ⟨d', v, e1, e2, e3⟩
    · rw [e1] at this; rw [e2]; exact this
    · rw [e1] at this; rw [e2]; exact this
  | true =>
    obtain ⟨xs, rfl, h2⟩ := hd
    rw [ep.1, ep.2] at hH
    obtain ⟨dd, hz, hs⟩ := dit_of I sm hH h2
    obtain ⟨b, k, rfl, rfl, e3, hkey⟩ := key_t I sm hk rp ry
    refine wpAny_notIn_heap (room_t hu) hkey hs dd ?_
    have := h _ (I.tok (s.toks + (nestedKind X.prog X.w).draws k))
    rcases h2.val e3 with ⟨e1, e2⟩ | ⟨d', v, p, e1, e2, e4, e5⟩
    · rw [e1] at this; rw [e2]; exact this
    · rw [e1] at this; rw [e2]; exact this
/-- d[y] = v -/
theorem dic_set (hu : A.units + 70 < cLine) (I : Inv X pins σ H s) (sm : Same F H) (ep : EaOk X ea) {a : Addr} {o : HO} {t : Bool} {ps : List (D × D)} (hH : H a = some o) (hd : DicO X.K F ea a t ps o) {kd d : D} {y v : V} {u r : Value}
    (hk : okK t kd = true) (hz : ps.length < 16777216) (rp : Rp X.K F y kd) (ry : RelV y u) (rv : RelV v r) (rd : Rp X.K F v d) {Q : Unit → Shared → Prop} (h : ∀ o' s', DicO X.K F ea a t (dStore ps kd d) o' → Inv X pins σ (upd H a o') s' → Q () s') :
    wpAny (model X.prog X.w) A (setItem (.ref a) u r) Q E s := by
  cases t with
  | false =>
    obtain ⟨kvs, rfl, h2⟩ := hd
    obtain ⟨z, rfl⟩ := okN hk
    cases rp
    exact d_setItem (by omega) I (DPut.k (k := .inr z) hH (by rw [sz_eq, h2.length]; exact hz)) ry rv fun s' I' => h _ s' ⟨_, rfl, h2.put z rd⟩ I'
  | true =>
    obtain ⟨xs, rfl, h2⟩ := hd
    have hH0 := hH
    rw [ep.1, ep.2] at hH
    obtain ⟨dd, hzz, hs⟩ := dit_of I sm hH h2
    obtain ⟨b, k, rfl, rfl, e3, hkey⟩ := key_t I sm hk rp ry
    refine wpAny_setItem_heap (hsz := hzz) (room_t hu) hkey dd fun h' dd' hsb => ?_
    have hl : (storedH xs k b r).length ≤ sizeLine := by
      have := storedH_length xs k b r
      rw [h2.length] at this
      rw [sz_eq]
      omega
    refine h (DtO ea.P ea.w a (storedH xs k b r)) _ ⟨_, rfl, h2.put e3 hk rp rv rd⟩ ?_
    rw [ep.1, ep.2]
    exact d_write I (by rw [hH]; exact True.intro) hsb (let ⟨q, _, _, hq, _⟩ := dd'; ⟨q, hq⟩) (dit_new hl hs dd')
end
end Fp

set_option Elab.async false
set_option linter.all false
set_option maxRecDepth 100000
set_option maxHeartbeats 2000000
/-! dict(pairs); readings of dicts. -/
namespace Fp
open PySem PySem.Spec PyProof.Rows L2
section
variable {X : Cx} {pins : List (Addr × Obj)} {σ : L2.St} {H F : Hp} {s : Shared}
theorem TpX.obj (I : L2.Inv X pins σ H s) {a : Addr} {xs : List V} (h : TpX X.K H a xs) : ∃ (its : List Value) (n : Nat), Vals xs its ∧ s.heap.get? a = some { cls := .type "tuple", data := .seq its.toArray n } ∧ xs.length ≤ sizeLine := by
  rcases h with ⟨o, h1, jts, m, h2⟩ | ⟨jts, n, h1, h5, h6⟩
  · obtain ⟨e, z, its, r, o', e', hc, n, hd⟩ := I.hok a _ h1
    subst h2
    rw [e] at e'
    cases e'
    cases hd
    exact ⟨its, m, r, e, z⟩
  · refine ⟨jts.toList, n, h6, I.kIn a _ h1, ?_⟩
    rw [h6.length, Array.length_toList]
    exact h5
theorem TpX.plain (I : L2.Inv X pins σ H s) {a : Addr} {xs : List V} (h : TpX X.K H a xs) : ∃ its : List Value, Vals xs its ∧ PlainSeq "tuple" s.heap a its.toArray ∧ xs.length ≤ sizeLine := by
  obtain ⟨its, n, r, e, z⟩ := TpX.obj I h
  exact ⟨its, r, ⟨_, n, e, rfl, rfl, rfl⟩, z⟩
theorem LsX.plain (I : L2.Inv X pins σ H s) {a : Addr} {xs : List V} (h : LsX X.K H a xs) : ∃ its : List Value, Vals xs its ∧ PlainSeq "list" s.heap a its.toArray ∧ xs.length ≤ sizeLine := by
  obtain ⟨its, r, ⟨o, n, h1, h2, h3, h4⟩, z⟩ := I.list h.sq
  exact ⟨its, r, ⟨o, n, h1, h2, h3, h4⟩, z⟩
theorem pair_in (I : L2.Inv X pins σ H s) (sm : Same F H) {v : V} {u : Value} {k d : D} (h : Rp X.K F v (.tuple [k, d])) (r : RelV v u) : ∃ (T : Addr) (vk vd : V) (uk ud : Value), u = .ref T ∧ PairAt s.heap T uk ud ∧ RelV vk uk ∧ RelV vd ud ∧ Rp X.K F vk k ∧ Rp X.K F vd d := by
  cases h with
  | tup h t =>
    rename_i a vs
    obtain rfl : u = Value.ref a := r
    cases t with
    | cons hk t =>
      cases t with
      | cons hd t =>
        cases t
        obtain ⟨its, rv, p, _⟩ := I.tuple (TpX.mono sm h).sq
        obtain ⟨uk, ud, rfl, r1, r2⟩ := vals2 rv
        exact ⟨a, _, _, uk, ud, rfl, .inl p, r1, r2, hk, hd⟩
theorem prs_N (I : L2.Inv X pins σ H s) (sm : Same F H) : ∀ {vs : List V} {ds : List D} {us : List Value} {ps : List (D × D)}, RpAll X.K F vs ds → Vals vs us → pairsD false ds = .ok ps →
    ∃ (Ts : List Addr) (kvs : List (Key × V)) (rs : List (Key × Value)) (raw : List (Value × Value)), us = Ts.map Value.ref ∧ raw.length = us.length ∧ rs.length = raw.length ∧ RpKv X.K F kvs ps ∧ KV kvs rs ∧
      (∀ (j : Nat) k v, raw[j]? = some (k, v) → ∃ T, Ts[j]? = some T ∧ PairAt s.heap T k v) ∧ ∀ (j : Nat) k v, raw[j]? = some (k, v) → ∃ key, rs[j]? = some (key, v) ∧ (mixKind X.prog X.w).is key k = true
  | _, _, _, ps, .nil, .nil, e => by
    cases e
    exact ⟨[], [], [], [], rfl, rfl, rfl, .nil, .nil, fun j k v q => by simp at q, fun j k v q => by simp at q⟩
  | _, d :: ds, u :: us, ps, .cons h t, .cons r rr, e => by
    cases d with
    | tuple xs =>
      match xs, h, e with
      | [k, d], h, e =>
        rw [pairsD] at e
        split at e
        · rename_i hk
          obtain ⟨z, rfl⟩ := okN hk
          cases e1 : pairsD false ds with
          | ok ps' =>
            rw [e1] at e
            cases e
            obtain ⟨Ts, kvs, rs, raw, h1, h2, h3, h4, h5, h6, h7⟩ := prs_N I sm t rr e1
            obtain ⟨T, vk, vd, uk, ud, rfl, pa, r1, r2, k1, k2⟩ := pair_in I sm h r
            cases k1
            refine ⟨T :: Ts, (.inr z, vd) :: kvs, (.inr z, ud) :: rs, (uk, ud) :: raw, by rw [h1]; rfl, by simp [h2], by simp [h3], .cons (k := .inr z) k2 h4, .cons ⟨rfl, r2⟩ h5, fun j k v q => ?_, fun j k v q => ?_⟩
            · cases j with
              | zero => cases q; exact ⟨T, rfl, pa⟩
              | succ j => exact h6 j k v (by simpa using q)
            · cases j with
              | zero => cases q; exact ⟨_, rfl, kV_is (k := .inr z) r1⟩
              | succ j => exact h7 j k v (by simpa using q)
          | ex c => rw [e1] at e; cases e
          | no => rw [e1] at e; cases e
        · cases e
      | [], h, e => simp [pairsD] at e
      | [_], h, e => simp [pairsD] at e
      | _ :: _ :: _ :: _, h, e => simp [pairsD] at e
    | _ => simp [pairsD] at e
theorem prs_T (I : L2.Inv X pins σ H s) (sm : Same F H) : ∀ {vs : List V} {ds : List D} {us : List Value} {ps : List (D × D)}, RpAll X.K F vs ds → Vals vs us → pairsD true ds = .ok ps →
    ∃ (Ts : List Addr) (rs : List (NestedKey × Addr × Value)) (raw : List (Value × Value)), us = Ts.map Value.ref ∧ raw.length = us.length ∧ rs.length = raw.length ∧ RpKt X.K F rs ps ∧
      (∀ (j : Nat) k v, raw[j]? = some (k, v) → ∃ T, Ts[j]? = some T ∧ PairAt s.heap T k v) ∧ ∀ (j : Nat) k v, raw[j]? = some (k, v) → ∃ key b, rs[j]? = some (key, b, v) ∧ k = .ref b
  | _, _, _, ps, .nil, .nil, e => by
    cases e
    exact ⟨[], [], [], rfl, rfl, rfl, .nil, fun j k v q => by simp at q, fun j k v q => by simp at q⟩
  | _, d :: ds, u :: us, ps, .cons h t, .cons r rr, e => by
    cases d with
    | tuple xs =>
      match xs, h, e with
      | [k, d], h, e =>
        rw [pairsD] at e
        split at e
        · rename_i hk
          cases e1 : pairsD true ds with
          | ok ps' =>
            rw [e1] at e
            cases e
            obtain ⟨Ts, rs, raw, h1, h2, h3, h4, h6, h7⟩ := prs_T I sm t rr e1
            obtain ⟨T, vk, vd, uk, ud, rfl, pa, r1, r2, k1, k2⟩ := pair_in I sm h r
            obtain ⟨b, nk, rfl, rfl, e3, hkey⟩ := key_t I sm hk k1 r1
            refine ⟨T :: Ts, (nk, b, ud) :: rs, (.ref b, ud) :: raw, by rw [h1]; rfl, by simp [h2], by simp [h3], .cons e3 hk k1 r2 k2 h4, fun j k v q => ?_, fun j k v q => ?_⟩
            · cases j with
              | zero => cases q; exact ⟨T, rfl, pa⟩
              | succ j => exact h6 j k v (by simpa using q)
            · cases j with
              | zero => cases q; exact ⟨_, _, rfl, rfl⟩
              | succ j => exact h7 j k v (by simpa using q)
          | ex c => rw [e1] at e; cases e
          | no => rw [e1] at e; cases e
        · cases e
      | [], h, e => simp [pairsD] at e
      | [_], h, e => simp [pairsD] at e
      | _ :: _ :: _ :: _, h, e => simp [pairsD] at e
    | _ => simp [pairsD] at e
theorem pitems {h : Heap} {Ts : List Addr} {us : List Value} {raw : List (Value × Value)} (h1 : us = Ts.map Value.ref) (h2 : raw.length = us.length) (h6 : ∀ (j : Nat) k v, raw[j]? = some (k, v) → ∃ T, Ts[j]? = some T ∧ PairAt h T k v) :
    PairItems h us.toArray (fun j => Ts.getD j 0) raw := by
  refine ⟨by rw [List.size_toArray]; exact h2.symm, fun j k v q => ?_⟩
  obtain ⟨T, e1, e2⟩ := h6 j k v q
  have e3 : Ts.getD j 0 = T := by rw [List.getD_eq_getElem?_getD, e1]; rfl
  dsimp only
  refine ⟨?_, by rw [e3]; exact e2⟩
  rw [e3, h1]
  simp [e1]
theorem merge_kv {K : PySem.W.Frag} {F : Hp} : ∀ {kvs : List (Key × V)} {ps : List (D × D)} {acc : List (Key × V)} {qs : List (D × D)}, RpKv K F kvs ps → (∀ p ∈ ps, okK false p.1 = true) → RpKv K F acc qs → RpKv K F (mergeK acc kvs) (dMerge qs ps)
  | _, _, acc, qs, .nil, _, h => h
  | _, _, acc, qs, .cons (k := k) (v := v) (d := d) hv t, hk, h => by
    obtain ⟨z, hz⟩ := okN (hk _ List.mem_cons_self)
    have e : k = .inr z := by
      cases k with
      | inl i => cases hz
      | inr x => cases hz; rfl
    subst e
    have q := merge_kv t (fun p hp => hk p (List.mem_cons_of_mem _ hp)) (h.put z hv)
    exact q
theorem merge_kt {K : PySem.W.Frag} {F : Hp} : ∀ {xs : List (NestedKey × Addr × Value)} {ps : List (D × D)} {acc : List (NestedKey × Addr × Value)} {qs : List (D × D)}, RpKt K F xs ps → RpKt K F acc qs → RpKt K F (storedAllH acc xs) (dMerge qs ps)
  | _, _, acc, qs, .nil, h => h
  | _, _, acc, qs, .cons h1 h2 h3 h4 h5 t, h => by
    have q := merge_kt t (h.put h1 h2 h3 h4 h5)
    exact q
theorem pairs_ok : ∀ {t : Bool} {ds : List D} {ps : List (D × D)}, pairsD t ds = .ok ps → ∀ p ∈ ps, okK t p.1 = true
  | t, [], ps, e, p, hp => by cases e; cases hp
  | t, d :: ds, ps, e, p, hp => by
    cases d with
    | tuple xs =>
      match xs, e with
      | [k, d], e =>
        rw [pairsD] at e
        split at e
        · rename_i hk
          cases e1 : pairsD t ds with
          | ok ps' =>
            rw [e1] at e
            cases e
            rcases List.mem_cons.mp hp with rfl | hp
            · exact hk
            · exact pairs_ok e1 p hp
          | ex c => rw [e1] at e; cases e
          | no => rw [e1] at e; cases e
        · cases e
      | [], e => simp [pairsD] at e
      | [_], e => simp [pairsD] at e
      | _ :: _ :: _ :: _, e => simp [pairsD] at e
    | _ => simp [pairsD] at e
def rDict (K : PySem.W.Frag) (ea : Ea) (t : Bool) : List V → Hp → VK → Prop := fun xs H Q => ∃ F v d ps, xs = [v] ∧ Same F H ∧ RpB K F H v d ∧ dOf t d = .ok ps ∧ ∀ p o, H p = none → DicO K F ea p t ps o → Q (.ref p) (upd H p o)
theorem call_dictD {ea : Ea} (ep : EaOk X ea) (hc : X.calm = true) (hr : Rm X) (t : Bool) : CallR X (.type "dict") (rDict X.K ea t) := by
  intro pins s σ H xs us Q I r ⟨F, v, d, ps, e, sm, hv, hps, q⟩
  subst e
  obtain ⟨u, rfl, rx⟩ := vals1 r
  have hh : X.A.handled = none := I.ok.hd hc
  have key : ∀ {a : Addr} {vs : List V} {ds : List D} {its : List Value} {T : String} {fp : List Addr} {Rel : Nat → Value → Value → Prop} {OK : Heap → Prop}, RpAll X.K F vs ds → Vals vs its → vs.length ≤ sizeLine → (pairsD t ds).bind (fun ps => .ok (dMerge [] ps)) = .ok ps →
      PlainSeq T s.heap a its.toArray → (T = "list" ∨ T = "tuple") → wpAny (model X.prog X.w) X.A (call (.type "dict") [.ref a]) (EP X pins σ Q) X.xe s := by
    intro a vs ds its T fp Rel OK ra rv hz hp pl hT
    have hm : (s.heap.objs.size == sysModules) = false := beq_eq_false_iff_ne.mpr (Nat.ne_of_gt I.big)
    have hnew := I.hok.fresh (Nat.le_refl s.heap.objs.size)
    cases e1 : pairsD t ds with
    | no => rw [e1] at hp; cases hp
    | ex c => rw [e1] at hp; cases hp
    | ok qs =>
      rw [e1] at hp
      cases hp
      cases t with
      | false =>
        obtain ⟨Ts, kvs, rs, raw, h1, h2, h3, h4, h5, h6, h7⟩ := prs_N I sm ra rv e1
        have hlen : raw.length ≤ sizeLine := by rw [h2, ← rv.length]; exact hz
        have mk := merge_kv h4 (pairs_ok e1) .nil
        have fin : ∀ h' tk, h'.DictOf (mixKind X.prog X.w) s.heap.objs.size (merged [] rs) → (∀ b o, s.heap.get? b = some o → h'.get? b = some o) → EP X pins σ Q (.ref s.heap.objs.size) { s with heap := h', toks := tk } := fun h' tk hd' k => by
          have hl : (mergeK [] kvs).length ≤ sizeLine := by
            refine Nat.le_trans (length_mergeK kvs []) ?_
            rw [List.length_nil, Nat.zero_add, h5.length, h3]
            exact hlen
          have new : ObjOk X.prog X.w (upd H s.heap.objs.size (.dK (mergeK [] kvs))) h' s.heap.objs.size (.dK (mergeK [] kvs)) := ⟨hl, hm, _, KV.merge h5 .nil, hd'⟩
          exact ⟨.ref s.heap.objs.size, _, I.laid (t' := tk) k (Nat.le_refl _) new, rfl, q _ _ hnew ⟨_, rfl, mk⟩⟩
        have hc : PairsHave (mixKind X.prog X.w) raw.length (PairRel raw) rs := ⟨h3, fun i key v q => h7 i key v q⟩
        rcases hT with rfl | rfl
        · exact PySem.call_dict_pairs (PairArg.list a its.toArray _ raw) hh ⟨pl, pitems h1 h2 h6⟩ hc hlen fun h' tk hd' k => fin h' tk hd' fun b o e => k b o (fun z => nomatch z) e
        · exact PySem.call_dict_pairs (PairArg.tuple a its.toArray _ raw) hh ⟨pl, pitems h1 h2 h6⟩ hc hlen fun h' tk hd' k => fin h' tk hd' fun b o e => k b o (fun z => nomatch z) e
      | true =>
        obtain ⟨Ts, rs, raw, h1, h2, h3, h4, h6, h7⟩ := prs_T I sm ra rv e1
        have hlen : raw.length ≤ sizeLine := by rw [h2, ← rv.length]; exact hz
        have mk := merge_kt h4 .nil
        have fin : ∀ h' tk, h'.DictOfH (nestedKind X.prog X.w) s.heap.objs.size (storedAllH [] rs) → (∀ b o, s.heap.get? b = some o → h'.get? b = some o) → EP X pins σ Q (.ref s.heap.objs.size) { s with heap := h', toks := tk } := fun h' tk hd' k => by
          have hl : (storedAllH [] rs).length ≤ sizeLine := by
            refine Nat.le_trans (storedAllH_length rs []) ?_
            rw [List.length_nil, Nat.zero_add, h3]
            exact hlen
          refine ⟨.ref s.heap.objs.size, upd H s.heap.objs.size (DtO ea.P ea.w s.heap.objs.size (storedAllH [] rs)), ?_, rfl, q _ _ hnew ⟨_, rfl, mk⟩⟩
          rw [ep.1, ep.2]
          exact I.laid (t' := tk) k (Nat.le_refl _) (dit_new hl hm hd')
        have hc : PairsHaveH (nestedKind X.prog X.w) raw.length (PairRel raw) rs := ⟨h3, fun i key v q => h7 i key v q⟩
        have hu : (nestedKind X.prog X.w).room X.A.in1.in1 := by
          have := hr.room
          show X.A.units + 1 + 1 + 8 < cLine
          omega
        have hst : KeysStay (nestedKind X.prog X.w) s.heap s.heap.objs.size [] rs := fun h' k x hx => nestedKind_stays.stays (fun b o vs n e _ => k b o (Nat.ne_of_lt (Heap.lt_size e)) (fun z => nomatch z) e) (keyAll I sm h4 x hx)
        rcases hT with rfl | rfl
        · exact PySem.call_dict_pairsH (PairArg.list a its.toArray _ raw) hh hu ⟨pl, pitems h1 h2 h6⟩ hc hst hlen fun h' tk hd' k => fin h' tk hd' fun b o e => k b o (fun z => nomatch z) e
        · exact PySem.call_dict_pairsH (PairArg.tuple a its.toArray _ raw) hh hu ⟨pl, pitems h1 h2 h6⟩ hc hst hlen fun h' tk hd' k => fin h' tk hd' fun b o e => k b o (fun z => nomatch z) e
  cases d with
  | list xs =>
    obtain ⟨p, vs, rfl, h1, r1⟩ := hv.list sm
    cases rx
    obtain ⟨its, rv, pl, hz⟩ := LsX.plain I h1
    exact key (fp := []) (Rel := fun _ _ _ => True) (OK := fun _ => True) r1 rv hz hps pl (.inl rfl)
  | tuple xs =>
    obtain ⟨p, vs, rfl, h1, r1⟩ := hv.tupleX sm
    cases rx
    obtain ⟨its, rv, pl, hz⟩ := TpX.plain I h1
    exact key (fp := []) (Rel := fun _ _ _ => True) (OK := fun _ => True) r1 rv hz hps pl (.inr rfl)
  | _ => cases hps
end
end Fp

set_option Elab.async false
set_option linter.all false
set_option maxRecDepth 100000
set_option maxHeartbeats 2000000
/-! Readings of dicts; a def that is picked out of a list. -/
namespace Fp
open PySem PySem.Spec PyProof.Rows L2
/-- a dict, new (fr) or owned -/
def rdD (K : PySem.W.Frag) (F0 H0 : Hp) (ea : Ea) (W : WD) (fr : Bool) (x : Env → R (Bool × List (D × D))) : TE := fun σ H Q => ∃ F env, Rel K F0 H0 ea env σ F H ∧
  AnsW F H (x env) (fun p F' H' => ∀ a o, H' a = some o → F' a = none → DicO K F' ea a p.1 p.2 o → (fr = true → H a = none) → Q (.ref a) H') fun c H' => W c σ H'
section
variable {X : Cx} {F0 H0 : Hp} {ea : Ea} {W : WD} {bor : Bool} {a b : Expr} {xa xb : Env → R D} {xd : Env → R (Bool × List (D × D))} {pos : Pos}
theorem pe_dWeak (h : PE X a (rdD X.K F0 H0 ea W true xd)) : PE X a (rdD X.K F0 H0 ea W false xd) := PEi h fun σ H Q ⟨F, env, r, q⟩ =>
  ⟨F, env, r, q.imp fun p F' H' e k v o h1 h2 h3 _ => k v o h1 h2 h3 fun z => nomatch z⟩
theorem slot_dic {env : Env} {i : Nat} {p : Bool × List (D × D)} (h : evD (.slot i) env = .ok p) : env[i]? = some (.own (dV p.1 p.2)) := by
  rw [evD] at h
  split at h
  · rename_i ps e
    cases h
    exact e
  · rename_i ps e
    cases h
    exact e
  · cases h
theorem noX_slot {env : Env} {i : Nat} : NoX (evD (.slot i) env) := fun c h => by
  rw [evD] at h
  split at h <;> cases h
theorem pe_dSlot {i : Nat} {y : Str} (h1 : X.N[i]? = some y) (h2 : Vis X.env.scope y) (h3 : okNm y = true) : PE X (.Name y pos) (rdD X.K F0 H0 ea W false (evD (.slot i))) :=
  PEi (pe_var h1 h2 (by
    unfold okNm at h3
    simp only [Bool.and_eq_true, Bool.not_eq_true'] at h3
    exact h3.1.1) (by
    unfold okNm at h3
    simp only [Bool.and_eq_true, Bool.not_eq_true'] at h3
    exact h3.1.2)) fun σ H Q ⟨F, env, r, q⟩ => by
  cases e : evD (.slot i) env with
  | no => rw [e] at q; exact q.elim
  | ex c => exact absurd e (noX_slot c)
  | ok p =>
    rw [e] at q
    obtain ⟨v, o, e1, e2, e3, e4, e5⟩ := r.dic (slot_dic e)
    exact ⟨.ref v, e1, AnsW.here r.sub q v o e4 e2 e5 fun z => nomatch z⟩
theorem dit_empty {P : Program} {w : World} {H : Hp} (h : Heap) (hb : sysModules < h.objs.size) : ObjOk P w H (h.push { cls := .type "dict", data := .dict #[] }) h.objs.size (DtO P w h.objs.size []) :=
  dit_new (Nat.zero_le _) (beq_eq_false_iff_ne.mpr (Ne.symm (Nat.ne_of_lt hb))) (Heap.DictOfH.new h)
theorem pe_dEmp (ep : EaOk X ea) (t : Bool) : PE X (.Dict [] [] pos) (rdD X.K F0 H0 ea W true (evD (.emp t))) := by
  refine ⟨fun pins s σ H Q I ⟨F, env, r, q⟩ => ?_⟩
  rw [evD] at q
  have hn : H s.heap.objs.size = none := I.hok.fresh (Nat.le_refl _)
  have hf : F s.heap.objs.size = none := r.sub.free hn
  have go : ∀ o, DicO X.K F ea s.heap.objs.size t [] o → ObjOk X.prog X.w (upd H s.heap.objs.size o) (s.heap.push { cls := .type "dict", data := .dict #[] }) s.heap.objs.size o → EP X pins σ Q (.ref s.heap.objs.size) { s with heap := s.heap.push { cls := .type "dict", data := .dict #[] } } := fun o hd new =>
    ⟨.ref s.heap.objs.size, upd H s.heap.objs.size o, I.laid (t' := s.toks) (fun _ _ e => Heap.get?_push_of_some _ e) (Nat.le_refl _) new, rfl, q F _ ((Ext.refl r.sub).loose hn) _ o upd_same hf hd fun _ => hn⟩
  refine wpAny_Dict_empty ?_
  cases t with
  | false => exact go _ ⟨[], rfl, .nil⟩ (dk_empty s.heap I.big)
  | true =>
    refine go (DtO ea.P ea.w s.heap.objs.size []) ⟨[], rfl, .nil⟩ ?_
    rw [ep.1, ep.2]
    exact dit_empty s.heap I.big
theorem noX_dOf (t : Bool) (d : D) : NoX (dOf t d) := fun c h => by
  have hp : ∀ {ds : List D} {c}, pairsD t ds ≠ .ex c := by
    intro ds
    induction ds with
    | nil => intro c z; cases z
    | cons d ds ih =>
      intro c z
      unfold pairsD at z
      split at z
      · cases z
      · split at z
        · cases e : pairsD t ‹List D› with
          | ok a => rw [e] at z; cases z
          | ex c' => exact ih (by rename_i h1 _; cases h1; exact e)
          | no => rw [e] at z; cases z
        · cases z
      · cases z
  unfold dOf at h
  split at h
  · cases e : pairsD t ‹List D› with
    | ok a => rw [e] at h; cases h
    | ex c' => exact hp e
    | no => rw [e] at h; cases h
  · cases e : pairsD t ‹List D› with
    | ok a => rw [e] at h; cases h
    | ex c' => exact hp e
    | no => rw [e] at h; cases h
  · cases h
theorem boot_dict : bootBuiltins ("dict" : Str) = some (.type "dict") := by first | rfl | decide
theorem pe_dOf {p : Pos} (ep : EaOk X ea) (hc : X.calm = true) (hr : Rm X) (t : Bool) (hg : Gl X "dict") (hm : X.mg "dict" = none) (hs : shp a = true) (ha : PE X a (rdV X.K F0 H0 ea W true xa)) :
    PE X (.Call (.Name "dict" p) [a] [] pos) (rdD X.K F0 H0 ea W true fun env => (xa env).bind fun x => (dOf t x).bind fun ps => .ok (t, ps)) :=
  PEi (pe_callTy (call_dictD ep hc hr t) hg hm boot_dict (pa_cons ha pa_nil (shp_star hs _)) (by decide) (by decide) (shp_star hs _) rfl) fun σ H Q ⟨F, env, r, q⟩ => ⟨F, env, r, q.bind fun u F1 H1 _ e1 q1 v1 r1 => by
    cases e : dOf t u with
    | no => rw [e] at q1; exact q1.elim
    | ex c => exact absurd e (noX_dOf t u c)
    | ok ps =>
      rw [e] at q1
      refine ⟨F1, v1, u, ps, rfl, e1.sub, r1.b, e, fun p o hp hd => ?_⟩
      exact q1 F1 _ ((Ext.refl e1.sub).loose hp) p o upd_same (e1.sub.free hp) hd fun _ => e1.hh.free hp⟩
theorem noX_dGet (t : Bool) (ps : List (D × D)) (k : D) : NoX (dGet t ps k) := fun c h => by
  unfold dGet at h
  split at h
  · cases e : dFind ps k with
    | some d => rw [e] at h; cases h
    | none => rw [e] at h; cases h
  · cases h
/-- d[k] -/
theorem pe_dgetD (ep : EaOk X ea) (hr : Rm X) (hs : shp b = true) (ha : PE X a (rdD X.K F0 H0 ea W false xd)) (hb : PE X b (rdV X.K F0 H0 ea W false xb)) :
    PE X (.Subscript a b pos) (rdV X.K F0 H0 ea W false fun env => (xd env).bind fun x => (xb env).bind fun y => dGet x.1 x.2 y) := by
  refine ⟨fun pins s σ H Q I ⟨F, env, r, q⟩ => ?_⟩
  refine subD_of (T := "dict") PySem.F.slot_dict_getitem.lookup (shp_ix hs) (thn (ha.run pins s σ H (fun v H1 => ∃ aa F1 o t ps, v = .ref aa ∧ Ext F H F1 H1 ∧ H1 aa = some o ∧ DicO X.K F1 ea aa t ps o ∧
    AnsW F1 H1 ((xb env).bind fun y => dGet t ps y) (fun d F' H' => ∀ v, Rb X.K false F' H' v d → Q v H') fun c H' => W c σ H') I ⟨F, env, r, q.bind fun p F1 H1 _ e1 q1 aa o h1 h2 h3 _ => ⟨aa, F1, o, p.1, p.2, rfl, e1, h1, h3, q1⟩⟩) fun u s1 ⟨v, H1, I1, rv, aa, F1, o, t, ps, ev, e1, h1, h3, q1⟩ => ?_)
  subst ev
  obtain rfl : u = Value.ref aa := rv
  refine thn (hb.run pins s1 σ H1 (fun v H2 => ∃ F2 k d, Ext F1 H1 F2 H2 ∧ Rp X.K F2 v k ∧ okK t k = true ∧ dFind ps k = some d ∧ ∀ v, Rp X.K F2 v d → Q v H2) I1 ⟨F1, env, r.grow e1, q1.bind fun k F2 H2 _ e2 q2 v2 r2 => ?_⟩) fun iv s2 ⟨y, H2, I2, ry, F2, k, d, e2, rk, ok, hv, q2⟩ => ?_
  · have r2 : Rp X.K F2 v2 k := r2
    unfold dGet at q2
    split at q2
    · rename_i hk
      cases e : dFind ps k with
      | none => rw [e] at q2; exact q2.elim
      | some d =>
        rw [e] at q2
        exact ⟨F2, k, d, e2, r2, hk, e, fun v hv => AnsW.here e2.sub q2 v hv⟩
    · exact q2.elim
  · have h1' := e2.hh _ _ h1
    have h3' := h3.mono e2.ff
    exact ⟨dic_typeIs I2 e2.sub ep h1' h3', dic_get hr.room I2 e2.sub ep h1' h3' ok rk ry hv fun w' v s' I' rw' rp => ⟨v, H2, I', rw', q2 v rp⟩⟩
/-- k in d, k not in d -/
theorem R.assoc {α β γ : Type} (x : R α) (f : α → R β) (g : β → R γ) : (x.bind f).bind g = x.bind fun a => (f a).bind g := by cases x <;> rfl
theorem AnsW.toBl {K : PySem.W.Frag} {F H : Hp} {x : R Bool} {Q : VK} {Ex : Str → Hp → Prop} (h : AnsW F H (x.bind fun k => .ok (.bool k)) (fun d F' H' => ∀ v, Rb K false F' H' v d → Q v H') Ex) : AnsW F H x (fun k _ H' => Q (.bl k) H') Ex := by
  cases x with
  | no => exact h
  | ex c => exact h
  | ok k => exact fun F' H' e => h F' H' e (.bl k) (Rp.bl k)
theorem pe_dinD (ep : EaOk X ea) (hr : Rm X) (n : Bool) (hs : shp b = true) (ha : PE X a (rdV X.K F0 H0 ea W false xa)) (hb : PE X b (rdD X.K F0 H0 ea W false xd)) :
    PE X (.Compare a [if n = true then .NotIn else .In] [b] pos) (rdV X.K F0 H0 ea W false fun env => (xa env).bind fun y => (xd env).bind fun x => (dHas x.1 x.2 y).bind fun k => .ok (.bool (n != k))) ∧
    PT X (.Compare a [if n = true then .NotIn else .In] [b] pos) (rdT X.K F0 H0 ea W fun env => ((xa env).bind fun y => (xd env).bind fun x => (dHas x.1 x.2 y).bind fun k => .ok (.bool (n != k))).bind asB) := by
  have pc : PC X (if n = true then .NotIn else .In) a b (fun σ H Q => ∃ F env, Rel X.K F0 H0 ea env σ F H ∧ AnsW F H ((xa env).bind fun y => (xd env).bind fun x => (dHas x.1 x.2 y).bind fun k => .ok (n != k)) (fun k _ H' => Q (.bl k) H') fun c H' => W c σ H') := by
    refine ⟨fun pins s σ H Q I ⟨F, env, r, q⟩ => ?_⟩
    refine thn (ha.run pins s σ H (fun v H1 => ∃ F1 y, Ext F H F1 H1 ∧ Rp X.K F1 v y ∧ AnsW F1 H1 ((xd env).bind fun x => (dHas x.1 x.2 y).bind fun k => .ok (n != k)) (fun k _ H' => Q (.bl k) H') fun c H' => W c σ H') I
      ⟨F, env, r, q.bind fun y F1 H1 _ e1 q1 v1 r1 => ⟨F1, y, e1, r1, q1⟩⟩) fun iv s1 ⟨v1, H1, I1, rv1, F1, y, e1, r1, q1⟩ => ?_
    refine thn (hb.run pins s1 σ H1 (fun v H2 => ∃ F2 aa o t ps, v = .ref aa ∧ Ext F1 H1 F2 H2 ∧ H2 aa = some o ∧ DicO X.K F2 ea aa t ps o ∧ okK t y = true ∧ Q (.bl (n != (dFind ps y).isSome)) H2) I1
      ⟨F1, env, r.grow e1, q1.bind fun p F2 H2 _ e2 q2 aa o h1 h2 h3 _ => ?_⟩) fun u s2 ⟨v2, H2, I2, rv2, F2, aa, o, t, ps, ev, e2, h1, h3, ok, q2⟩ => ?_
    · unfold dHas at q2
      split at q2
      · rename_i hk
        exact ⟨F2, aa, o, p.1, p.2, rfl, e2, h1, h3, hk, AnsW.here e2.sub q2⟩
      · exact q2.elim
    · subst ev
      obtain rfl : u = Value.ref aa := rv2
      cases n with
      | false =>
        refine dic_in hr.room I2 e2.sub ep h1 h3 ok (r1.mono e2.ff) rv1 fun s' I' => ⟨.bl _, H2, I', rfl, ?_⟩
        rw [Bool.false_bne] at q2
        exact q2
      | true =>
        refine dic_notIn hr.room I2 e2.sub ep h1 h3 ok (r1.mono e2.ff) rv1 fun s' I' => ⟨.bl _, H2, I', rfl, ?_⟩
        rw [Bool.true_bne] at q2
        exact q2
  have e1 : ∀ env, ((xa env).bind fun y => (xd env).bind fun x => (dHas x.1 x.2 y).bind fun k => R.ok (PyData.bool (n != k))) = ((xa env).bind fun y => (xd env).bind fun x => (dHas x.1 x.2 y).bind fun k => R.ok (n != k)).bind fun k => .ok (.bool k) := fun env => by
    rw [R.assoc]
    congr 1
    funext y
    rw [R.assoc]
    congr 1
    funext x
    rw [R.assoc]
    rfl
  have e2 : ∀ x : R Bool, (x.bind fun k => R.ok (PyData.bool k)).bind asB = x := fun x => by cases x <;> rfl
  refine ⟨PEi (pe_cmp pc (shp_mark hs _)) fun σ H Q ⟨F, env, r, q⟩ => ⟨F, env, r, ?_⟩, PTi (pt_cmp pc (shp_mark hs _)) fun σ H Q ⟨F, env, r, q⟩ => ⟨F, env, r, ?_⟩⟩
  · dsimp only at q
    rw [e1] at q
    exact AnsW.toBl q
  · dsimp only at q
    rw [e1, e2] at q
    exact q.imp fun k F' H' _ h => ⟨k, rfl, h⟩
/-! ### a def out of a list of defs -/
/-- the values of names: their defs -/
inductive Fns (X : Cx) (cv : Str → Value) (np : Nat) : List (List D → R D) → List Expr → List V → Prop
  | nil : Fns X cv np [] [] []
  | cons {g : List D → R D} {gs : List (List D → R D)} {n : Str} {p : Pos} {xs : List Expr} {f : Addr} {vs : List V} : Callee X cv n np g → Gl X n → (n == ("__debug__" : Str)) = false → X.mg n = some (.ref f) → Fns X cv np gs xs vs → Fns X cv np (g :: gs) (.Name n p :: xs) (.ref f :: vs)
theorem Fns.pa {cv : Str → Value} {np : Nat} {gs : List (List D → R D)} {xs : List Expr} {vs : List V} (h : Fns X cv np gs xs vs) : PA X xs (fun _ H Q => Q vs H) := by
  induction h with
  | nil => exact PAi pa_nil fun σ H Q q => q
  | @cons g gs n p xs f vs hc hg hd hm t ih => exact PAi (pa_cons (pe_glob (v := .ref f) hg hm rfl hd) ih (by rfl)) fun σ H Q q => q
theorem Fns.length {cv : Str → Value} {np : Nat} {gs : List (List D → R D)} {xs : List Expr} {vs : List V} (h : Fns X cv np gs xs vs) : vs.length = gs.length ∧ xs.length = gs.length := by
  induction h with
  | nil => exact ⟨rfl, rfl⟩
  | cons _ _ _ _ t ih => exact ⟨by simp [ih.1], by simp [ih.2]⟩
theorem Fns.at_ {cv : Str → Value} {np : Nat} {gs : List (List D → R D)} {xs : List Expr} {vs : List V} (h : Fns X cv np gs xs vs) : ∀ {j : Nat} {g : List D → R D}, gs[j]? = some g → ∃ n f, vs[j]? = some (.ref f) ∧ X.mg n = some (.ref f) ∧ Callee X cv n np g := by
  induction h with
  | nil => intro j g e; simp at e
  | cons hc hg hd hm t ih =>
    intro j g e
    cases j with
    | zero => cases e; exact ⟨_, _, rfl, hm, hc⟩
    | succ j => exact ih (by simpa using e)
theorem atI_fn {cv : Str → Value} {np : Nat} {gs : List (List D → R D)} {xs : List Expr} {vs : List V} (h : Fns X cv np gs xs vs) {i : Int} {g : List D → R D} (e : atI gs i = some g) : ∃ n f, atI vs i = some (.ref f) ∧ X.mg n = some (.ref f) ∧ Callee X cv n np g := by
  unfold atI at e ⊢
  rw [h.length.1]
  cases e1 : ixN gs.length i with
  | none => rw [e1] at e; cases e
  | some j =>
    rw [e1] at e
    exact h.at_ e
theorem noX_idxF (gs : List (List D → R D)) (d : D) : NoX (idxF gs d) := fun c h => by
  cases d with
  | int i =>
    have h : ofO (atI gs i) = .ex c := h
    cases e : atI gs i with
    | some g => rw [e] at h; cases h
    | none => rw [e] at h; cases h
  | _ => cases h
theorem eval_sel (o i : Expr) (p : Pos) (args : List Expr) (pos : Pos) (env : PySem.Env) : eval (.Call (.Subscript o i p) args [] pos) env = (do callWith pos (← eval (.Subscript o i p) env) [] (backTo pos (starEach args env)) (backToKw pos (keywordEach [] env))) := rfl
theorem pe_selD {cv : Str → Value} {np : Nat} {gs : List (List D → R D)} {fs es : List Expr} {vs : List V} {ix : Expr} {xi : Env → R D} {xr : Env → R (List D)} {lp sp : Pos} (tk : Takes X (wx cv W)) (hf : Fns X cv np gs fs vs) (h16 : gs.length ≤ 16) (hsi : shp ix = true) (hi : PE X ix (rdV X.K F0 H0 ea W false xi))
    (hs : ∀ y ∈ a :: es, shp y = true) (hl : ∀ env ds, xr env = .ok ds → ds.length = np) (ha : PA X (a :: es) (rdA X.K F0 H0 ea W false xr)) :
    PE X (.Call (.Subscript (.List fs lp) ix sp) (a :: es) [] pos) (rdV X.K F0 H0 ea W false fun env => (xi env).bind fun i => (idxF gs i).bind fun g => (xr env).bind g) := by
  refine ⟨fun pins s σ H Q I ⟨F, env, r, q⟩ => ?_⟩
  rw [eval_sel]
  have hp : PE X (.Subscript (.List fs lp) ix sp) (tOp (rIxL X.K) (tLst (fun _ H Q => Q vs H)) (rdV X.K F0 H0 ea W false xi)) := pe_ix ix_list (pe_lst hf.pa) hi (shp_ix hsi)
  refine wpAny_bind (thn (hp.run pins s σ H (fun v H1 => ∃ F1 n f g, v = .ref f ∧ Ext F H F1 H1 ∧ X.mg n = some (.ref f) ∧ Callee X cv n np g ∧ AnsW F1 H1 ((xr env).bind g) (fun d F' H' => ∀ v, Rb X.K false F' H' v d → Q v H') fun c H' => W c σ H') I ?_) fun u s1 ⟨v, H1, I1, rv, F1, n, f, g, ev, e1, hm, C, q1⟩ => ?_)
  · refine ⟨by rw [hf.length.1, sz_eq]; omega, fun p hp => ?_⟩
    have e0 := (Ext.refl r.sub).loose (o := .lst vs) hp
    refine ⟨F, env, r.grow e0, (q.ext e0).bind fun k F2 H2 _ e2 q2 v2 r2 => ?_⟩
    have r2 : Rp X.K F2 v2 k := r2
    cases e : idxF gs k with
    | no => rw [e] at q2; exact q2.elim
    | ex c => exact absurd e (noX_idxF gs k c)
    | ok g =>
      rw [e] at q2
      cases k with
      | int i =>
        cases r2
        have e' : ofO (atI gs i) = .ok g := e
        cases e3 : atI gs i with
        | none => rw [e3] at e'; cases e'
        | some g' =>
          rw [e3] at e'
          cases e'
          obtain ⟨n, f, h1, h2, h3⟩ := atI_fn hf e3
          exact ⟨p, vs, i, .ref f, rfl, rfl, SqL.of (e2.hh _ _ upd_same), h1, F2, n, f, g, rfl, e0.trans e2, h2, h3, q2⟩
      | _ => cases e
  · subst ev
    obtain rfl : u = Value.ref f := rv
    obtain ⟨k, f', fd, ps, Fn, hr, hm', hk, hb⟩ := C.ok
    rw [hm] at hm'
    cases hm'
    refine PySem.W.callWith_K (h₀ := X.base) I1.ok.mod.kin hk (thn (ha.run pos pins s1 σ H1 (fun vs H2 => ∃ F2 ds, Ext F1 H1 F2 H2 ∧ xr env = .ok ds ∧ RpAll X.K F2 vs ds ∧ AnsW F2 H2 (g ds) (fun d F' H' => ∀ v, Rb X.K false F' H' v d → Q v H') fun c H' => W c σ H') I1
      ⟨F1, env, r.grow e1, q1.bind fun ds F2 H2 e e2 q2 vs2 r2 => ⟨F2, ds, e2, e, r2, q2⟩⟩) fun us s2 ⟨vs2, H2, I2, rv2, F2, ds, e2, hd, r2, q2⟩ => ⟨I2.kIn, ?_⟩) (shp_star (hs a List.mem_cons_self) es) (backTo_any (starOk fun y hy => hs y (List.mem_cons_of_mem _ hy)))
    refine run_fnSD (E := WE (wx cv W)) (dvs := []) (ds := []) Fn hr hb .nil (passAt tk σ) I2 rv2 ?_
    show spF X.K cv np g (vs2 ++ []) H2 Q (WE (wx cv W) σ)
    rw [List.append_nil]
    refine ⟨by rw [r2.length]; exact hl env ds hd, F2, ds, e2.sub, r2, ?_⟩
    revert q2
    cases g ds with
    | ok d => exact fun q2 F' H' e v hv => q2 F' H' e v hv
    | ex c => exact fun q2 F' H' e => ⟨c, rfl, rfl, q2 F' H' e⟩
    | no => exact fun q => q
end
end Fp

set_option Elab.async false
set_option linter.all false
set_option maxRecDepth 100000
set_option maxHeartbeats 2000000
/-! A term's text means the term. -/
namespace Fp
open PySem PySem.Spec PyProof.Rows L2
mutual
/-- the calls' meanings are the table's -/
def E.okT (T : Nat → List D → R D) : E → Prop
  | .tup es => es.okT T
  | .lst es => es.okT T
  | .bin _ a b => a.okT T ∧ b.okT T
  | .neg a => a.okT T
  | .cmp _ a b => a.okT T ∧ b.okT T
  | .chn a b c => a.okT T ∧ b.okT T ∧ c.okT T
  | .and a b => a.okT T ∧ b.okT T
  | .or a b => a.okT T ∧ b.okT T
  | .not a => a.okT T
  | .ite c a b => c.okT T ∧ a.okT T ∧ b.okT T
  | .idx a i => a.okT T ∧ i.okT T
  | .sli a lo hi => a.okT T ∧ lo.okT T ∧ hi.okT T
  | .rev a => a.okT T
  | .call j g es => g = T j ∧ es.okT T
  | .blt _ es => es.okT T
  | .isi a _ => a.okT T
  | .isk _ a _ => a.okT T
  | .met _ a es => a.okT T ∧ es.okT T
  | .lc _ _ it cs e => it.okT T ∧ cs.okT T ∧ e.okT T
  | .lc2 _ _ it cs _ it2 cs2 e => it.okT T ∧ cs.okT T ∧ it2.okT T ∧ cs2.okT T ∧ e.okT T
  | .dget d k => d.okT T ∧ k.okT T
  | .din _ k d => k.okT T ∧ d.okT T
  | .sel js gs i es => gs = js.map T ∧ i.okT T ∧ es.okT T
  | _ => True
def DE.okT (T : Nat → List D → R D) : DE → Prop
  | .of _ e => e.okT T
  | _ => True
def Es.okT (T : Nat → List D → R D) : Es → Prop
  | .nil => True
  | .cons e es => e.okT T ∧ es.okT T
def Eo.okT (T : Nat → List D → R D) : Eo → Prop
  | .non => True
  | .som e => e.okT T
def It.okT (T : Nat → List D → R D) : It → Prop
  | .dat e => e.okT T
  | .zip a b => a.okT T ∧ b.okT T
  | .zip3 a b c => a.okT T ∧ b.okT T ∧ c.okT T
  | .enu a => a.okT T
  | .rg1 a => a.okT T
  | .rg2 a b => a.okT T ∧ b.okT T
def Cs.okT (T : Nat → List D → R D) : Cs → Prop
  | .nil => True
  | .one e => e.okT T
end
/-- a module's constant -/
def cnsV : D → Value → Prop
  | .int i, u => RelV (.int i) u
  | .str z, u => RelV (.str z) u
  | _, _ => True
structure Wf (X : Cx) (G : Gx) (T : Nat → List D → R D) (cv : Str → Value) (bk : Bk) (ea : Ea) : Prop where
  eo : EaOk X ea
  hN : X.N = G.N
  nd : X.N.Nodup
  sc : X.env.scope = bk.sc
  st : ∀ x, bk.st x = true → Loc X.env.scope x ∧ (X.fn x = true ∨ X.env.scope.names.lookup x = some .local)
  calm : bk.hot = false → X.calm = true
  rm : Rm X
  cns : ∀ p ∈ G.cns, ∃ u, X.mg p.1 = some u ∧ cnsV p.2 u
  fre : ∀ x, G.fre.contains x = true → X.mg x = none
  fns : bk.hot = false → ∀ j, j < G.lim → ∀ x n, G.fns[j]? = some x → G.ars[j]? = some n → Callee X cv x n (T j)
  isE : bk.hot = true → G.ise = true → ∀ n c, ea.ok n → G.exs.contains c = true → ∀ {x : Str} {p p2 p3 p4 : Pos} {i : Nat}, Gl X "isinstance" → X.mg "isinstance" = none → X.N[i]? = some x → Vis X.env.scope x → okNm x = true → Gl X c → okNm c = true →
    PE X (.Call (.Name "isinstance" p) [.Name x p2, .Name c p3] [] p4) (fun σ H Q => σ[i]? = some (some (.ref ea.a)) ∧ Q (.bl (isSub n c)) H)
section
variable {X : Cx} {G : Gx} {T : Nat → List D → R D} {cv : Str → Value} {bk : Bk} {ea : Ea}
theorem lookup_rel {scope sc : Scope} {x : Str} {k : NameKind} (hk : k ≠ .free) : ∀ (l : List (Str × NameKind)), l.lookup x = some k →
    (l.map fun (n, k) => if (k == .free && sc.kind == .function && sc.names.lookup n == some .cell) then (n, NameKind.cell) else (n, k)).lookup x = some k
  | [], h => by simp at h
  | (n, k') :: r, h => by
    rw [List.lookup_cons] at h
    rw [List.map_cons]
    by_cases e : x = n
    · subst e
      simp only [beq_self_eq_true] at h
      cases h
      have h1 : (k == NameKind.free) = false := by
        cases k <;> first | rfl | exact absurd rfl hk
      simp [h1]
    · have h1 : (x == n) = false := by simpa using e
      rw [h1] at h
      have ih := lookup_rel (scope := scope) (sc := sc) hk r h
      rw [List.lookup_cons]
      have h2 : (x == (if (k' == .free && sc.kind == .function && sc.names.lookup n == some .cell) then (n, NameKind.cell) else (n, k')).1) = false := by
        split
        · exact h1
        · exact h1
      show (match (x == (if (k' == .free && sc.kind == .function && sc.names.lookup n == some .cell) then (n, NameKind.cell) else (n, k')).1) with | true => _ | false => _) = _
      rw [h2]
      exact ih
theorem Wf.blk (w : Wf X G T cv bk ea) (hb : bk.hot = false) (s : Shared) (H : Hp) (scope : Scope) (cl : List (Str × Addr)) (C : Addr) (fp : List Addr) :
    Wf (X.blk s H scope (compEnvC scope cl C X.env) fp) G T cv (blkBk bk scope) ea where
  eo := w.eo
  hN := w.hN
  nd := w.nd
  sc := by show relS scope X.env.scope = relS scope bk.sc; rw [w.sc]
  st := fun x h => by
    have h : isOwn scope x = true := h
    unfold isOwn at h
    have go : ∀ k, (k = .local ∨ k = .cell) → scope.names.lookup x = some k → Loc (relS scope X.env.scope) x ∧ ((X.blk s H scope (compEnvC scope cl C X.env) fp).fn x = true ∨ (relS scope X.env.scope).names.lookup x = some .local) := fun k hk e => by
      have e2 : (relS scope X.env.scope).names.lookup x = some k := lookup_rel (scope := scope) (by rcases hk with rfl | rfl <;> intro z <;> cases z) scope.names e
      rcases hk with rfl | rfl
      · exact ⟨.inl e2, .inr e2⟩
      · refine ⟨.inr e2, .inl ?_⟩
        show (scope.names.lookup x == some .cell) = true
        rw [e]; rfl
    split at h
    · rename_i e; exact go _ (.inl rfl) e
    · rename_i e; exact go _ (.inr rfl) e
    · cases h
  calm := fun _ => w.calm hb
  rm := ⟨w.rm.room⟩
  cns := w.cns
  fre := w.fre
  fns := fun _ j hj x n hx hn => ⟨(w.fns hb j hj x n hx hn).ok⟩
  isE := fun h => by
    have h : bk.hot = true := h
    rw [hb] at h; cases h
theorem vis_ok {sc : Scope} {x : Str} (h : isVis sc x = true) : Vis sc x := by
  unfold isVis at h
  split at h
  · rename_i e; exact .inl e
  · rename_i e; exact .inr (.inl e)
  · rename_i e; exact .inr (.inr e)
  · cases h
theorem gl_ok {x : Str} (w : Wf X G T cv bk ea) (h : isGl bk.sc x = true) : Gl X x := by
  unfold isGl at h
  split at h
  · rename_i e
    show X.env.scope.names.lookup x = _
    rw [w.sc]; exact e
  · cases h
theorem nm_ok {x : Str} (h : okNm x = true) : (x == ("__debug__" : Str)) = false ∧ (x == ("__classdict__" : Str)) = false ∧ (x == ("__name__" : Str)) = false := by
  unfold okNm at h
  simp only [Bool.and_eq_true, Bool.not_eq_true'] at h
  exact ⟨h.1.1, h.1.2, h.2⟩
/-- which makes a new list -/
def mk : E → Bool
  | .lst _ => true
  | .bin _ _ _ => true
  | .sli _ _ _ => true
  | .rev _ => true
  | .blt b _ => (match b with
    | .min1 => false
    | _ => true)
  | .lc _ _ _ _ _ => true
  | .lc2 _ _ _ _ _ _ _ _ => true
  | _ => false
structure Good (X : Cx) (F0 H0 : Hp) (ea : Ea) (W : WD) (bor : Bool) (x : Expr) (m : Bool) (f : Fp.Env → R D) : Prop where
  v : PE X x (rdV X.K F0 H0 ea W bor f)
  g : bor = false → m = true → PE X x (rdG X.K F0 H0 ea W f)
  t : bor = false → PT X x (rdT X.K F0 H0 ea W fun env => (f env).bind asB)
  w : bor = false → ∀ op vs pos, x = .BoolOp op vs pos → PW X x (rdT X.K F0 H0 ea W fun env => (f env).bind asB)
variable {F0 H0 : Hp} {W : WD} {bor : Bool} {x : Expr} {f : Fp.Env → R D}
def plainT (x : Expr) : Bool := match x with
  | .UnaryOp .Not _ _ => false
  | .BoolOp _ _ _ => false
  | .IfExp _ _ _ _ => false
  | .Compare _ _ _ _ => false
  | _ => true
theorem plainT_ok {env : PySem.Env} (h : plainT x = true) : ∀ whole, isTrue x env whole = (do let v ← whole; standAt x.pos; holding [v] (truthy v)) := by
  intro whole
  cases x <;> first
    | rfl
    | (cases h; done)
    | skip
  rename_i op _ _
  cases op <;> first
    | rfl
    | (cases h; done)
theorem notBool {op : BoolOp} {vs : List Expr} {pos : Pos} (h : plainT x = true) : x ≠ .BoolOp op vs pos := fun e => by subst e; cases h
theorem Good.ofE (h : PE X x (rdV X.K F0 H0 ea W false f)) (hp : plainT x = true) : Good X F0 H0 ea W bor x false f :=
  ⟨pe_weak h, fun _ z => (by cases z), fun _ => pt_ofV h (plainT_ok hp), fun _ op vs pos e => absurd e (notBool hp)⟩
theorem Good.ofG (h : PE X x (rdG X.K F0 H0 ea W f)) (hp : plainT x = true) : Good X F0 H0 ea W bor x true f :=
  ⟨pe_ofG h, fun _ _ => h, fun _ => pt_ofV (pe_ofG h) (plainT_ok hp), fun _ op vs pos e => absurd e (notBool hp)⟩
theorem Good.ofT (h : PE X x (rdV X.K F0 H0 ea W false f)) (ht : PT X x (rdT X.K F0 H0 ea W fun env => (f env).bind asB)) (hp : ∀ op vs pos, x ≠ .BoolOp op vs pos) : Good X F0 H0 ea W bor x false f :=
  ⟨pe_weak h, fun _ z => (by cases z), fun _ => ht, fun _ op vs pos e => absurd e (hp op vs pos)⟩
theorem Good.ofW (h : PE X x (rdV X.K F0 H0 ea W false f)) (ht : PW X x (rdT X.K F0 H0 ea W fun env => (f env).bind asB)) : Good X F0 H0 ea W bor x false f :=
  ⟨pe_weak h, fun _ z => (by cases z), fun _ => ht.pt, fun _ op vs pos e => ht⟩
theorem boot_blt : ∀ b : Blt, (∃ id, bltV b = .builtin id ∧ bootBuiltins (bltNm b) = some (.builtin id)) ∨ ∃ t, bltV b = .type t ∧ bootBuiltins (bltNm b) = some (.type t)
  | .len => .inl ⟨_, rfl, by first | rfl | decide⟩
  | .all => .inl ⟨_, rfl, by first | rfl | decide⟩
  | .any => .inl ⟨_, rfl, by first | rfl | decide⟩
  | .sum => .inl ⟨_, rfl, by first | rfl | decide⟩
  | .list => .inr ⟨_, rfl, by first | rfl | decide⟩
  | .tuple => .inr ⟨_, rfl, by first | rfl | decide⟩
  | .sorted => .inl ⟨_, rfl, by first | rfl | decide⟩
  | .min1 => .inl ⟨_, rfl, by first | rfl | decide⟩
  | .max2 => .inl ⟨_, rfl, by first | rfl | decide⟩
  | .min2 => .inl ⟨_, rfl, by first | rfl | decide⟩
theorem pe_bltD {b : Blt} {es : Es} {xs : List Expr} {p pos : Pos} (hc : X.calm = true) (hr : Rm X) (hg : Gl X (bltNm b)) (hm : X.mg (bltNm b) = none) (hl : 0 < xs.length) (hs : ∀ y ∈ xs, shp y = true) (ha : PA X xs (rdA X.K F0 H0 ea W true (evEs es))) :
    PE X (.Call (.Name (bltNm b) p) xs [] pos) (tCB (rBl X.K b) (rdA X.K F0 H0 ea W true (evEs es))) := by
  cases xs with
  | nil => exact absurd hl (Nat.lt_irrefl _)
  | cons a as =>
    have h1 := shp_star (env := X.env) (hs a List.mem_cons_self) as
    have h2 : (backTo pos (starEach as X.env)).any (·.1) = false := backTo_any (starOk fun y hy => hs y (List.mem_cons_of_mem _ hy))
    have hn : bltNm b ≠ "__name__" := by cases b <;> decide
    have hd : (bltNm b == ("__debug__" : Str)) = false := by cases b <;> decide
    have hb := bld (X := X) (b := b) hc hr
    rcases boot_blt b with ⟨id, e1, e2⟩ | ⟨t, e1, e2⟩
    · rw [e1] at hb
      exact pe_callB hb hg hm e2 ha hn hd h1 h2
    · rw [e1] at hb
      exact pe_callTy hb hg hm e2 ha hn hd h1 h2
theorem evEs_len : ∀ {es : Es} {env : Fp.Env} {ds : List D}, evEs es env = .ok ds → ds.length = es.len
  | .nil, env, ds, h => by
    rw [evEs] at h; cases h; rfl
  | .cons e es, env, ds, h => by
    rw [evEs] at h
    cases h1 : evE e env with
    | ok u =>
      rw [h1, R.bind_ok] at h
      cases h2 : evEs es env with
      | ok us =>
        rw [h2, R.bind_ok] at h
        cases h
        rw [List.length_cons, evEs_len h2]
        rfl
      | ex c => rw [h2] at h; cases h
      | no => rw [h2] at h; cases h
    | ex c => rw [h1] at h; cases h
    | no => rw [h1] at h; cases h
end
end Fp

set_option Elab.async false
set_option linter.all false
set_option maxRecDepth 100000
set_option maxHeartbeats 4000000
/-! A term's text means the term: all terms. -/
namespace Fp
open PySem PySem.Spec PyProof.Rows L2
section
variable {G : Gx} {T : Nat → List D → R D} {cv : Str → Value} {F0 H0 : Hp} {ea : Ea} {X : Cx} {bk : Bk} {W : WD} {bor : Bool}
theorem nomono {F : Hp} : Same (fun _ => none) F := fun _ _ z => by cases z
theorem name_ok (w : Wf X G T cv bk ea) {i : Nat} {y : Str} (h : nameAt G bk i y = true) : X.N[i]? = some y ∧ Vis X.env.scope y ∧ okNm y = true := by
  unfold nameAt at h
  simp only [Bool.and_eq_true, decide_eq_true_eq] at h
  exact ⟨by rw [w.hN]; exact h.1.1, by rw [w.sc]; exact vis_ok h.1.2, h.2⟩
theorem s_slot (w : Wf X G T cv bk ea) {i : Nat} {x : Expr} (h : chkE G bk bor (.slot i) x = true) : Good X F0 H0 ea W bor x (mk (.slot i)) (evE (.slot i)) := by
  cases x with
  | Name y p =>
    obtain ⟨h1, h2, h3⟩ := name_ok w (by simpa [chkE] using h)
    refine Good.ofE (PEi (pe_var h1 h2 (nm_ok h3).1 (nm_ok h3).2.1) fun σ H Q ⟨F, env, r, q⟩ => ?_) rfl
    rw [evE] at q
    split at q
    · rename_i d e
      obtain ⟨v, e1, e2⟩ := r.val e
      exact ⟨v, e1, AnsW.here r.sub q v e2⟩
    · exact q.elim
  | _ => simp [chkE] at h
theorem s_bor (w : Wf X G T cv bk ea) {i : Nat} {x : Expr} (h : chkE G bk bor (.bor i) x = true) : Good X F0 H0 ea W bor x (mk (.bor i)) (evE (.bor i)) := by
  cases x with
  | Name y p =>
    simp only [chkE, Bool.and_eq_true] at h
    obtain ⟨hb, h⟩ := h
    subst hb
    obtain ⟨h1, h2, h3⟩ := name_ok w h
    refine ⟨PEi (pe_var h1 h2 (nm_ok h3).1 (nm_ok h3).2.1) fun σ H Q ⟨F, env, r, q⟩ => ?_, fun z => (by cases z), fun z => (by cases z), fun z => (by cases z)⟩
    rw [evE] at q
    split at q
    · rename_i d e
      obtain ⟨v, e1, e2⟩ := r.val e
      exact ⟨v, e1, AnsW.here r.sub q v (.inl e2)⟩
    · rename_i d e
      obtain ⟨a, vs, ds, e1, e2, e3, e4, e5, e6⟩ := r.own e
      exact ⟨.ref a, e1, AnsW.here r.sub q _ (.inr ⟨a, vs, ds, rfl, e2, e5, e6⟩)⟩
    · exact q.elim
  | _ => simp [chkE] at h
theorem s_cst {d : D} {x : Expr} (h : chkE G bk bor (.cst d) x = true) : Good X F0 H0 ea W bor x (mk (.cst d)) (evE (.cst d)) := by
  cases x with
  | Constant c k p =>
    have h : cstIs d c = true := by simpa [chkE] using h
    refine Good.ofE ?_ rfl
    have go : ∀ {v : V} {d : D}, Rp X.K (fun _ => none) v d → PE X (.Constant c k p) (tC v) → PE X (.Constant c k p) (rdV X.K F0 H0 ea W false (evE (.cst d))) := fun {v d} rv hp =>
      PEi hp fun σ H Q ⟨F, env, r, q⟩ => by
        rw [evE] at q
        exact AnsW.here r.sub q v (rv.mono nomono)
    cases d <;> cases c <;> first
      | exact go .non pe_non
      | (cases h; done)
      | skip
    · have h : (_ == _) = true := h
      rw [eq_of_beq h]; exact go (.bl _) pe_bl
    · have h := of_decide_eq_true h
      rw [h]; exact go (.int _) pe_int
    · have h := of_decide_eq_true h
      rw [h]; exact go (.str _) pe_str
  | _ => simp [chkE] at h
theorem s_glo (w : Wf X G T cv bk ea) {z : Str} {d : D} {x : Expr} (h : chkE G bk bor (.glo z d) x = true) : Good X F0 H0 ea W bor x (mk (.glo z d)) (evE (.glo z d)) := by
  cases x with
  | Name y p =>
    simp only [chkE, Bool.and_eq_true, decide_eq_true_eq] at h
    obtain ⟨⟨⟨_, h2⟩, h3⟩, h4⟩ := h
    obtain ⟨⟨y', d'⟩, hp, hq⟩ := List.any_eq_true.mp h4
    simp only [Bool.and_eq_true, decide_eq_true_eq] at hq
    obtain ⟨rfl, hq⟩ := hq
    obtain ⟨u, hu, hv⟩ := w.cns _ hp
    refine Good.ofE ?_ rfl
    have go : ∀ {v : V} {d : D}, Rp X.K (fun _ => none) v d → RelV v u → PE X (.Name y' p) (rdV X.K F0 H0 ea W false (evE (.glo z d))) := fun {v d} rv hr =>
      PEi (pe_glob (gl_ok w h2) hu hr (nm_ok h3).1) fun σ H Q ⟨F, env, r, q⟩ => by
        rw [evE] at q
        exact AnsW.here r.sub q v (rv.mono nomono)
    cases d' <;> cases d <;> first
      | (cases hq; done)
      | skip
    · have hq := of_decide_eq_true hq
      subst hq
      exact go (.int _) hv
    · have hq := of_decide_eq_true hq
      subst hq
      exact go (.str _) hv
  | _ => simp [chkE] at h
theorem s_exi (w : Wf X G T cv bk ea) {i : Nat} {c : Str} {x : Expr} (h : chkE G bk bor (.exi i c) x = true) : Good X F0 H0 ea W bor x (mk (.exi i c)) (evE (.exi i c)) := by
  cases x with
  | Call f xs ks p =>
    cases f with
    | Name fn pf =>
      match xs, ks, h with
      | xs, _ :: _, h => simp [chkE] at h
      | [], [], h => simp [chkE] at h
      | [_], [], h => simp [chkE] at h
      | _ :: _ :: _ :: _, [], h => simp [chkE] at h
      | [a1, a2], [], h =>
        cases a1 <;> first
          | (simp [chkE] at h; done)
          | skip
        cases a2 <;> first
          | (simp [chkE] at h; done)
          | skip
        rename_i y p1 cn p2
        simp only [chkE, Bool.and_eq_true, decide_eq_true_eq] at h
        obtain ⟨⟨⟨⟨⟨⟨⟨⟨⟨h1, h2⟩, h3⟩, h4⟩, h5⟩, h6⟩, h7⟩, h8⟩, h9⟩, h10⟩ := h
        subst h2 h6
        obtain ⟨n1, n2, n3⟩ := name_ok w h5
        refine Good.ofE ⟨fun pins s σ H Q I ⟨F, env, r, q⟩ => ?_⟩ rfl
        rw [evE] at q
        split at q
        · rename_i d e
          obtain ⟨x, e1, e2, e3⟩ := r.at e
          subst e2
          exact (w.isE h1 h10 d _ e3 h9 (gl_ok w h4) (w.fre _ h3) n1 n2 n3 (gl_ok w h7) h8).run pins s σ H Q I ⟨e1, AnsW.here r.sub q _ (Rp.bl _)⟩
        · exact q.elim
    | _ => simp [chkE] at h
  | _ => simp [chkE] at h
theorem takesF {Y : Cx} (h : ∀ u s, Y.xe u s ↔ False := by intros; exact Iff.rfl) : Takes Y (wx cv WF) := fun u s x => by
  obtain ⟨_, _, _, _, _, _, _, _, _, _, _, _, _, _, _, _, z⟩ := x
  obtain ⟨_, _, _, z⟩ := z
  exact z.elim
theorem it_shp {it : It} {tgx x : Expr} (h : chkIt G bk bor tgx it x = true) : shp x = true := by
  cases it with
  | dat e => exact chk_shp (by simpa [chkIt] using h)
  | _ =>
    cases x <;> first
      | (simp [chkIt] at h; done)
      | skip
    rename_i f as ks p
    cases as with
    | cons _ _ => rfl
    | nil => cases f <;> cases ks <;> simp [chkIt] at h
def mkD : DE → Bool
  | .slot _ => false
  | _ => true
theorem chkD_shp {d : DE} {x : Expr} (hd : (match d with
    | .emp _ => false
    | _ => true) = true) (h : chkD G bk d x = true) : shp x = true := by
  cases d with
  | slot i => cases x <;> first | rfl | (simp [chkD] at h; done)
  | emp t => cases hd
  | of t e =>
    cases x with
    | Call f xs ks p =>
      cases xs with
      | nil => cases f <;> cases ks <;> simp [chkD] at h
      | cons a as => rfl
    | _ => simp [chkD] at h
theorem chkFs_ok (w : Wf X G T cv bk ea) (hb : bk.hot = false) : ∀ {js : List Nat} {gs : List (List D → R D)} {n : Nat} {fs : List Expr}, gs = js.map T → chkFs G bk js n fs = true → ∃ vs, Fns X cv n gs fs vs
  | [], gs, n, fs, e, h => by
    subst e
    cases fs with
    | nil => exact ⟨[], .nil⟩
    | cons _ _ => simp [chkFs] at h
  | j :: js, gs, n, fs, e, h => by
    subst e
    cases fs with
    | nil => simp [chkFs] at h
    | cons x r =>
      cases x with
      | Name y p =>
        simp only [chkFs, Bool.and_eq_true, decide_eq_true_eq] at h
        obtain ⟨⟨⟨⟨⟨h1, h2⟩, h3⟩, h4⟩, h5⟩, h6⟩ := h
        have C := w.fns hb j h2 y n h1 h5
        obtain ⟨vs, ih⟩ := chkFs_ok w hb (js := js) rfl h6
        obtain ⟨k, f, fd, ps, F, hr, hm, hk, hbd⟩ := id C.ok
        exact ⟨_, .cons C (gl_ok w h3) (nm_ok h4).1 hm ih⟩
      | _ => simp [chkFs] at h
mutual
theorem sE : ∀ (e : E) {X : Cx} {bk : Bk} {W : WD} {bor : Bool} {x : Expr}, Wf X G T cv bk ea → Takes X (wx cv W) → e.okT T → chkE G bk bor e x = true → Good X F0 H0 ea W bor x (mk e) (evE e)
  | .slot i, X, bk, W, bor, x, w, tk, ok, h => s_slot w h
  | .bor i, X, bk, W, bor, x, w, tk, ok, h => s_bor w h
  | .cst d, X, bk, W, bor, x, w, tk, ok, h => s_cst h
  | .glo z d, X, bk, W, bor, x, w, tk, ok, h => s_glo w h
  | .exi i c, X, bk, W, bor, x, w, tk, ok, h => s_exi w h
  | .tup es, X, bk, W, bor, x, w, tk, ok, h => by
    cases x with
    | Tuple xs k p => exact Good.ofE (pe_tupD (sEs es w tk ok (by simpa [chkE] using h))) rfl
    | _ => simp [chkE] at h
  | .lst es, X, bk, W, bor, x, w, tk, ok, h => by
    cases x with
    | List xs p => exact Good.ofG (pe_lstD (sEs es w tk ok (by simpa [chkE] using h))) rfl
    | _ => simp [chkE] at h
  | .bin o a b, X, bk, W, bor, x, w, tk, ok, h => by
    cases x with
    | BinOp xa op xb p =>
      simp only [chkE, Bool.and_eq_true] at h
      exact Good.ofG (pe_bin (opd h.1.1) (noX_bin o) (sE a w tk ok.1 h.1.2).v (sE b w tk ok.2 h.2).v) rfl
    | _ => simp [chkE] at h
  | .neg a, X, bk, W, bor, x, w, tk, ok, h => by
    cases x with
    | UnaryOp op xa p =>
      cases op with
      | USub => exact Good.ofE (pe_neg (sE a w tk ok (by simpa [chkE] using h)).v) rfl
      | _ => simp [chkE] at h
    | _ => simp [chkE] at h
  | .cmp o a b, X, bk, W, bor, x, w, tk, ok, h => by
    cases x with
    | Compare xa ops xs p =>
      match ops, xs, h with
      | [op], [xb], h =>
        simp only [chkE, Bool.and_eq_true] at h
        have ha := (sE a w tk ok.1 h.1.2).v
        have hb := (sE b w tk ok.2 h.2).v
        exact Good.ofT (pe_cmpD (opc w.rm h.1.1) (noX_cmp o) ha hb (chk_shp h.2)) (pt_cmpD (opc w.rm h.1.1) (noX_cmp o) ha hb (chk_shp h.2)) (fun _ _ _ e => nomatch e)
      | [], _, h => simp [chkE] at h
      | _ :: _ :: _, _, h => simp [chkE] at h
      | [_], [], h => simp [chkE] at h
      | [_], _ :: _ :: _, h => simp [chkE] at h
    | _ => simp [chkE] at h
  | .chn a b c, X, bk, W, bor, x, w, tk, ok, h => by
    cases x with
    | Compare xa ops xs p =>
      cases ops with
      | nil => simp [chkE] at h
      | cons o1 r =>
        cases o1 <;> first
          | (simp [chkE] at h; done)
          | skip
        cases r with
        | nil => simp [chkE] at h
        | cons o2 r =>
          cases o2 <;> first
            | (simp [chkE] at h; done)
            | skip
          cases r with
          | cons _ _ => simp [chkE] at h
          | nil =>
            match xs, h with
            | [xb, xc], h =>
              simp only [chkE, Bool.and_eq_true] at h
              have ha := (sE a w tk ok.1 h.1.1).v
              have hb := (sE b w tk ok.2.1 h.1.2).v
              have hc := (sE c w tk ok.2.2 h.2).v
              exact Good.ofT (pe_chnD w.rm (chk_shp h.2) ha hb hc) (pt_chnD w.rm (chk_shp h.2) ha hb hc) (fun _ _ _ e => nomatch e)
            | [], h => simp [chkE] at h
            | [_], h => simp [chkE] at h
            | _ :: _ :: _ :: _, h => simp [chkE] at h
    | _ => simp [chkE] at h
  | .and a b, X, bk, W, bor, x, w, tk, ok, h => by
    cases x with
    | BoolOp op xs p =>
      cases op with
      | Or => simp [chkE] at h
      | And =>
        match xs, h with
        | [], h => simp [chkE] at h
        | [_], h => simp [chkE] at h
        | [xa, xb], h =>
          simp only [chkE, Bool.and_eq_true] at h
          have ga := sE a w tk ok.1 h.1
          have gb := sE b w tk ok.2 h.2
          exact Good.ofW (pe_andD ga.v (pe_one gb.v)) (pw_andD (ga.t rfl) (pw_and1 (gb.t rfl)))
        | xa :: xb :: xc :: r, h =>
          simp only [chkE, Bool.and_eq_true] at h
          have ga := sE a w tk ok.1 h.1
          have gb := sE b w tk ok.2 h.2
          exact Good.ofW (pe_andD ga.v gb.v) (pw_andD (ga.t rfl) (gb.w rfl _ _ _ rfl))
    | _ => simp [chkE] at h
  | .or a b, X, bk, W, bor, x, w, tk, ok, h => by
    cases x with
    | BoolOp op xs p =>
      cases op with
      | And => simp [chkE] at h
      | Or =>
        match xs, h with
        | [], h => simp [chkE] at h
        | [_], h => simp [chkE] at h
        | [xa, xb], h =>
          simp only [chkE, Bool.and_eq_true] at h
          have ga := sE a w tk ok.1 h.1
          have gb := sE b w tk ok.2 h.2
          exact Good.ofW (pe_orD ga.v (pe_one gb.v)) (pw_orD (ga.t rfl) (pw_or1 (gb.t rfl)))
        | xa :: xb :: xc :: r, h =>
          simp only [chkE, Bool.and_eq_true] at h
          have ga := sE a w tk ok.1 h.1
          have gb := sE b w tk ok.2 h.2
          exact Good.ofW (pe_orD ga.v gb.v) (pw_orD (ga.t rfl) (gb.w rfl _ _ _ rfl))
    | _ => simp [chkE] at h
  | .not a, X, bk, W, bor, x, w, tk, ok, h => by
    cases x with
    | UnaryOp op xa p =>
      cases op with
      | Not =>
        have ga := sE (bor := false) a w tk ok (by simpa [chkE] using h)
        exact Good.ofT (pe_notD ga.v) (pt_notD (ga.t rfl)) (fun _ _ _ e => nomatch e)
      | _ => simp [chkE] at h
    | _ => simp [chkE] at h
  | .ite c a b, X, bk, W, bor, x, w, tk, ok, h => by
    cases x with
    | IfExp xc xa xb p =>
      simp only [chkE, Bool.and_eq_true] at h
      have gc := sE c w tk ok.1 h.1.1
      have ga := sE a w tk ok.2.1 h.1.2
      have gb := sE b w tk ok.2.2 h.2
      exact Good.ofT (pe_iteD (gc.t rfl) ga.v gb.v) (pt_iteD (gc.t rfl) (ga.t rfl) (gb.t rfl)) (fun _ _ _ e => nomatch e)
    | _ => simp [chkE] at h
  | .idx a i, X, bk, W, bor, x, w, tk, ok, h => by
    cases x with
    | Subscript xa xi p =>
      simp only [chkE, Bool.and_eq_true] at h
      exact Good.ofE (pe_idx (sE a w tk ok.1 h.1).v (sE i w tk ok.2 h.2).v (chk_shp h.2)) rfl
    | _ => simp [chkE] at h
  | .sli a lo hi, X, bk, W, bor, x, w, tk, ok, h => by
    cases x with
    | Subscript xa xi p =>
      cases xi with
      | Slice l u s p2 =>
        cases s with
        | none =>
          simp only [chkE, Bool.and_eq_true] at h
          exact Good.ofG (pe_sli (sE a w tk ok.1 h.1.1).v (sEo lo w tk ok.2.1 h.1.2) (sEo hi w tk ok.2.2 h.2)) rfl
        | some _ => simp [chkE] at h
      | _ => simp [chkE] at h
    | _ => simp [chkE] at h
  | .rev a, X, bk, W, bor, x, w, tk, ok, h => by
    cases x with
    | Subscript xa xi p =>
      cases xi with
      | Slice l u s p2 =>
        match l, u, s, h with
        | none, none, some sx, h =>
          cases sx with
          | UnaryOp op y q =>
            cases op <;> first
              | (simp [chkE] at h; done)
              | skip
            cases y with
            | Constant cn k q2 =>
              cases cn with
              | int n =>
                by_cases hn : n = 1
                · subst hn
                  exact Good.ofG (pe_rev (sE a w tk ok (by simpa [chkE] using h)).v) rfl
                · simp [chkE, hn] at h
              | _ => simp [chkE] at h
            | _ => simp [chkE] at h
          | _ => simp [chkE] at h
        | some _, _, _, h => simp [chkE] at h
        | none, some _, _, h => simp [chkE] at h
        | none, none, none, h => simp [chkE] at h
      | _ => simp [chkE] at h
    | _ => simp [chkE] at h
  | .call j g es, X, bk, W, bor, x, w, tk, ok, h => by
    cases x with
    | Call f xs ks p =>
      cases f with
      | Name fn pf =>
        cases ks with
        | cons _ _ => simp [chkE] at h
        | nil =>
          simp only [chkE, Bool.and_eq_true, decide_eq_true_eq, Bool.not_eq_true'] at h
          obtain ⟨⟨⟨⟨⟨⟨⟨h1, h2⟩, h3⟩, h4⟩, h5⟩, h6⟩, h7⟩, h8⟩ := h
          have ha := sEs (bor := false) es w tk ok.2 h8
          have hs := chkEs_shp h8
          have hl := chkEs_len h8
          have C := w.fns h1 j h3 fn _ h2 h7
          rw [← ok.1] at C
          cases xs with
          | nil => simp at hl; omega
          | cons a as =>
            exact Good.ofE (pe_callD tk C (gl_ok w h4) (nm_ok h5).1 hs (fun env ds e => evEs_len e) ha) rfl
      | _ => simp [chkE] at h
    | _ => simp [chkE] at h
  | .blt b es, X, bk, W, bor, x, w, tk, ok, h => by
    cases x with
    | Call f xs ks p =>
      cases f with
      | Name fn pf =>
        cases ks with
        | cons _ _ => simp [chkE] at h
        | nil =>
          simp only [chkE, Bool.and_eq_true, decide_eq_true_eq, Bool.not_eq_true'] at h
          obtain ⟨⟨⟨⟨⟨h1, h2⟩, h3⟩, h4⟩, h5⟩, h6⟩ := h
          subst h2
          have ha := sEs (bor := true) es w tk ok h6
          have hl := chkEs_len h6
          have hp := pe_bltD (p := pf) (pos := p) (w.calm h1) w.rm (gl_ok w h4) (w.fre _ h3) (by rw [hl, h5]; exact blt_pos b) (chkEs_shp h6) ha
          cases b <;> first
            | exact Good.ofG (PEi hp (rbl_of (t := tNil) (by intro z; cases z))) rfl
            | exact Good.ofE (PEi hp (rbl_min (t := tNil))) rfl
      | _ => simp [chkE] at h
    | _ => simp [chkE] at h
  | .isi a t, X, bk, W, bor, x, w, tk, ok, h => by
    cases x with
    | Call f xs ks p =>
      cases f with
      | Name fn pf =>
        match xs, ks, h with
        | xs, _ :: _, h => simp [chkE] at h
        | [], [], h => simp [chkE] at h
        | [_], [], h => simp [chkE] at h
        | _ :: _ :: _ :: _, [], h => simp [chkE] at h
        | [xa, a2], [], h =>
          cases a2 <;> first
            | (simp [chkE] at h; done)
            | skip
          rename_i y p2
          simp only [chkE, Bool.and_eq_true, decide_eq_true_eq] at h
          obtain ⟨⟨⟨⟨⟨⟨h1, h2⟩, h3⟩, h4⟩, h5⟩, h6⟩, h7⟩ := h
          subst h1 h4
          exact Good.ofE (pe_isiD (gl_ok w h3) (w.fre _ h2) (gl_ok w h6) (w.fre _ h5) (chk_shp h7) (sE a w tk ok h7).v) rfl
      | _ => simp [chkE] at h
    | _ => simp [chkE] at h
  | .isk n a k, X, bk, W, bor, x, w, tk, ok, h => by
    cases x with
    | Compare xa ops xs p =>
      match ops, xs, h with
      | [], _, h => simp [chkE] at h
      | _ :: _ :: _, _, h => simp [chkE] at h
      | [_], [], h => simp [chkE] at h
      | [_], _ :: _ :: _, h => simp [chkE] at h
      | [op], [xc], h =>
        cases xc <;> first
          | (simp [chkE] at h; done)
          | skip
        rename_i cn kk p1
        simp only [chkE, Bool.and_eq_true] at h
        obtain ⟨⟨h1, h2⟩, h3⟩ := h
        have ho : op = if n = true then .IsNot else .Is := by
          cases op <;> cases n <;> first | rfl | (cases h1; done)
        have hp := pe_isk (pos := p) (kk := kk) (p1 := p1) ho h2 (sE a w tk ok h3).v
        exact Good.ofT hp.1 hp.2 (fun _ _ _ e => nomatch e)
    | _ => simp [chkE] at h
  | .met m a es, X, bk, W, bor, x, w, tk, ok, h => by
    cases x with
    | Call f xs ks p =>
      cases f with
      | Attribute xo y apos =>
        cases ks with
        | cons _ _ => simp [chkE] at h
        | nil =>
          simp only [chkE, Bool.and_eq_true, decide_eq_true_eq] at h
          obtain ⟨⟨⟨⟨h1, h2⟩, h3⟩, h4⟩, h5⟩ := h
          subst h1
          have ha := sEs (bor := false) es w tk ok.2 h5
          have hl := chkEs_len h5
          have hs := chkEs_shp h5
          match xs, hl, hs, ha with
          | [xb], _, hs, ha => exact Good.ofE (pe_metD w.rm h2 (chk_shp h4) (hs xb List.mem_cons_self) (sE a w tk ok.1 h4).v ha) rfl
          | [], hl, _, _ => simp at hl; omega
          | _ :: _ :: _, hl, _, _ => simp at hl; omega
      | _ => simp [chkE] at h
    | _ => simp [chkE] at h
  | .lc own tg it cs e, X, bk, W, bor, x, w, tk, ok, h => by
    cases x with
    | ListComp elt gs scope p =>
      match gs, h with
      | [], h => simp [chkE] at h
      | _ :: _ :: _ :: _, h => simp [chkE] at h
      | [_, _], h => simp [chkE] at h
      | [⟨t, i, ifs, as⟩], h =>
        by_cases ha : as = 0
        · subst ha
          simp only [chkE, Bool.and_eq_true, Bool.not_eq_true'] at h
          obtain ⟨⟨⟨⟨⟨⟨h1, h2⟩, h3⟩, h4⟩, h5⟩, h6⟩, h7⟩ := h
          have hsub : ∀ j ∈ tgv tg, j ∈ own := fun j hj => by
            have := List.all_eq_true.mp h3 j hj
            simpa using this
          refine Good.ofG (pe_lcD (own := own) (tg := tg) (xi := evIt it) (xt := evCs cs) (xe := evE e) (w.calm h1) w.nd (by rw [w.hN, w.sc]; exact h2) hsub (it_shp h4) (sIt it w tk ok.1 h4) (fun s H C cl fp => ?_) (fun s H C cl fp => ?_) (fun s H C cl fp => ?_)) rfl
          · have wb := w.blk h1 s H scope cl C fp
            exact tg_sound (wb.calm h1) wb.hN wb.nd wb.st tg t h5
          · exact sCs cs (w.blk h1 s H scope cl C fp) (takesF) ok.2.1 h6
          · exact (sE e (w.blk h1 s H scope cl C fp) (takesF) ok.2.2 h7).v
        · simp [chkE, ha] at h
    | _ => simp [chkE] at h
  | .lc2 own tg it cs tg2 it2 cs2 e, X, bk, W, bor, x, w, tk, ok, h => by
    cases x with
    | ListComp elt gs scope p =>
      match gs, h with
      | [], h => simp [chkE] at h
      | _ :: _ :: _ :: _, h => simp [chkE] at h
      | [_], h => simp [chkE] at h
      | [⟨t, i, ifs, as⟩, ⟨t2, i2, ifs2, as2⟩], h =>
        by_cases ha : as = 0
        · by_cases ha2 : as2 = 0
          · subst ha ha2
            simp only [chkE, Bool.and_eq_true, Bool.not_eq_true'] at h
            obtain ⟨⟨⟨⟨⟨⟨⟨⟨⟨⟨h1, h2⟩, h3⟩, h4⟩, h5⟩, h6⟩, h7⟩, h8⟩, h9⟩, h10⟩, h11⟩ := h
            have hsub : ∀ j ∈ tgv tg, j ∈ own := fun j hj => by
              have := List.all_eq_true.mp h3 j hj
              simpa using this
            have hsub2 : ∀ j ∈ tgv tg2, j ∈ own := fun j hj => by
              have := List.all_eq_true.mp h7 j hj
              simpa using this
            refine Good.ofG (pe_lc2D (own := own) (tg := tg) (xi := evIt it) (xt := evCs cs) (xe := evE e) (tg2 := tg2) (xi2 := evIt it2) (xt2 := evCs cs2) (w.calm h1) w.nd (by rw [w.hN, w.sc]; exact h2) hsub hsub2 (it_shp h4) (it_shp h8) (sIt it w tk ok.1 h4)
              (fun s H C cl fp => ?_) (fun s H C cl fp => ?_) (fun s H C cl fp => ?_) (fun s H C cl fp => ?_) (fun s H C cl fp => ?_) (fun s H C cl fp => ?_)) rfl
            · have wb := w.blk h1 s H scope cl C fp
              exact tg_sound (wb.calm h1) wb.hN wb.nd wb.st tg t h5
            · exact sCs cs (w.blk h1 s H scope cl C fp) (takesF) ok.2.1 h6
            · exact sIt it2 (w.blk h1 s H scope cl C fp) (takesF) ok.2.2.1 h8
            · have wb := w.blk h1 s H scope cl C fp
              exact tg_sound (wb.calm h1) wb.hN wb.nd wb.st tg2 t2 h9
            · exact sCs cs2 (w.blk h1 s H scope cl C fp) (takesF) ok.2.2.2.1 h10
            · exact (sE e (w.blk h1 s H scope cl C fp) (takesF) ok.2.2.2.2 h11).v
          · subst ha; simp [chkE, ha2] at h
        · simp [chkE, ha] at h
    | _ => simp [chkE] at h
  | .dget d k, X, bk, W, bor, x, w, tk, ok, h => by
    cases x with
    | Subscript xa xi p =>
      simp only [chkE, Bool.and_eq_true] at h
      have hd := sD d w tk ok.1 h.1
      have hd : PE X xa (rdD X.K F0 H0 ea W false (evD d)) := by
        cases hm : mkD d with
        | true => rw [hm] at hd; exact pe_dWeak hd
        | false => rw [hm] at hd; exact hd
      exact Good.ofE (pe_dgetD w.eo w.rm (chk_shp h.2) hd (sE k w tk ok.2 h.2).v) rfl
    | _ => simp [chkE] at h
  | .din n k d, X, bk, W, bor, x, w, tk, ok, h => by
    cases x with
    | Compare xa ops xs p =>
      match ops, xs, h with
      | [], _, h => simp [chkE] at h
      | _ :: _ :: _, _, h => simp [chkE] at h
      | [_], [], h => simp [chkE] at h
      | [_], _ :: _ :: _, h => simp [chkE] at h
      | [op], [xb], h =>
        simp only [chkE, Bool.and_eq_true] at h
        obtain ⟨⟨⟨h1, h2⟩, h3⟩, h4⟩ := h
        have ho : op = if n = true then .NotIn else .In := by
          cases op <;> cases n <;> first | rfl | (cases h1; done)
        subst ho
        have hd := sD d w tk ok.2 h4
        have hd : PE X xb (rdD X.K F0 H0 ea W false (evD d)) := by
          cases hm : mkD d with
          | true => rw [hm] at hd; exact pe_dWeak hd
          | false => rw [hm] at hd; exact hd
        have hp := pe_dinD (pos := p) w.eo w.rm n (chkD_shp h2 h4) (sE k w tk ok.1 h3).v hd
        exact Good.ofT hp.1 hp.2 (fun _ _ _ e => nomatch e)
    | _ => simp [chkE] at h
  | .sel js gs i es, X, bk, W, bor, x, w, tk, ok, h => by
    cases x with
    | Call f xs ks p =>
      cases f with
      | Subscript lx ix sp =>
        cases lx with
        | List fs lp =>
          cases ks with
          | cons _ _ => simp [chkE] at h
          | nil =>
            simp only [chkE, Bool.and_eq_true, decide_eq_true_eq, Bool.not_eq_true'] at h
            obtain ⟨⟨⟨⟨⟨⟨⟨h1, h2⟩, h3⟩, h4⟩, h5⟩, h6⟩, h7⟩, h8⟩ := h
            have ha := sEs (bor := false) es w tk ok.2.2 h8
            have hs := chkEs_shp h8
            have hl := chkEs_len h8
            obtain ⟨vs, hf⟩ := chkFs_ok w h1 ok.1 h5
            cases xs with
            | nil => simp at hl; omega
            | cons a as => exact Good.ofE (pe_selD tk hf (by omega) (chk_shp h7) (sE i w tk ok.2.1 h7).v hs (fun env ds e => evEs_len e) ha) rfl
        | _ => simp [chkE] at h
      | _ => simp [chkE] at h
    | _ => simp [chkE] at h
theorem sD : ∀ (d : DE) {X : Cx} {bk : Bk} {W : WD} {x : Expr}, Wf X G T cv bk ea → Takes X (wx cv W) → d.okT T → chkD G bk d x = true → PE X x (rdD X.K F0 H0 ea W (mkD d) (evD d))
  | .slot i, X, bk, W, x, w, tk, ok, h => by
    cases x with
    | Name y p =>
      obtain ⟨h1, h2, h3⟩ := name_ok w (by simpa [chkD] using h)
      exact pe_dSlot h1 h2 h3
    | _ => simp [chkD] at h
  | .emp t, X, bk, W, x, w, tk, ok, h => by
    cases x with
    | Dict ks vs p =>
      cases ks with
      | nil =>
        cases vs with
        | nil => exact pe_dEmp w.eo t
        | cons _ _ => simp [chkD] at h
      | cons _ _ => simp [chkD] at h
    | _ => simp [chkD] at h
  | .of t e, X, bk, W, x, w, tk, ok, h => by
    cases x with
    | Call f xs ks p =>
      cases f with
      | Name fn pf =>
        match xs, ks, h with
        | xs, _ :: _, h => rcases xs with _ | ⟨_, _ | ⟨_, _⟩⟩ <;> simp [chkD] at h
        | [], [], h => simp [chkD] at h
        | _ :: _ :: _, [], h => simp [chkD] at h
        | [xa], [], h =>
          simp only [chkD, Bool.and_eq_true, decide_eq_true_eq, Bool.not_eq_true'] at h
          obtain ⟨⟨⟨⟨h1, h2⟩, h3⟩, h4⟩, h5⟩ := h
          subst h2
          exact pe_dOf w.eo (w.calm h1) w.rm t (gl_ok w h4) (w.fre _ h3) (chk_shp h5) (sE e w tk ok h5).v
      | _ => simp [chkD] at h
    | _ => simp [chkD] at h
theorem sEs : ∀ (es : Es) {X : Cx} {bk : Bk} {W : WD} {bor : Bool} {xs : List Expr}, Wf X G T cv bk ea → Takes X (wx cv W) → es.okT T → chkEs G bk bor es xs = true → PA X xs (rdA X.K F0 H0 ea W bor (evEs es))
  | .nil, X, bk, W, bor, xs, w, tk, ok, h => by
    cases xs with
    | nil => exact pa_nilD
    | cons _ _ => simp [chkEs] at h
  | .cons e es, X, bk, W, bor, xs, w, tk, ok, h => by
    cases xs with
    | nil => simp [chkEs] at h
    | cons x xs =>
      simp only [chkEs, Bool.and_eq_true] at h
      exact pa_consD (chk_shp h.1) (sE e w tk ok.1 h.1).v (sEs es w tk ok.2 h.2)
theorem sEo : ∀ (eo : Eo) {X : Cx} {bk : Bk} {W : WD} {x : Option Expr}, Wf X G T cv bk ea → Takes X (wx cv W) → eo.okT T → chkEo G bk eo x = true → PO X x (rdO X.K F0 H0 ea W (evEo eo))
  | .non, X, bk, W, x, w, tk, ok, h => by
    cases x with
    | none => exact po_non
    | some _ => simp [chkEo] at h
  | .som e, X, bk, W, x, w, tk, ok, h => by
    cases x with
    | none => simp [chkEo] at h
    | some x => exact po_som (sE (bor := false) e w tk ok (by simpa [chkEo] using h)).v
theorem sIt : ∀ (it : It) {X : Cx} {bk : Bk} {W : WD} {bor : Bool} {tgx x : Expr}, Wf X G T cv bk ea → Takes X (wx cv W) → it.okT T → chkIt G bk bor tgx it x = true → PI X tgx x (rdI X.K F0 H0 ea W bor (evIt it))
  | .dat e, X, bk, W, bor, tgx, x, w, tk, ok, h => pi_dat (sE e w tk ok (by simpa [chkIt] using h)).v
  | .zip a b, X, bk, W, bor, tgx, x, w, tk, ok, h => by
    cases x with
    | Call f xs ks p =>
      cases f with
      | Name fn pf =>
        match xs, ks, h with
        | xs, _ :: _, h => rcases xs with _ | ⟨_, _ | ⟨_, _ | ⟨_, _⟩⟩⟩ <;> simp [chkIt] at h
        | [], [], h => simp [chkIt] at h
        | [_], [], h => simp [chkIt] at h
        | _ :: _ :: _ :: _, [], h => simp [chkIt] at h
        | [xa, xb], [], h =>
          simp only [chkIt, Bool.and_eq_true, decide_eq_true_eq] at h
          obtain ⟨⟨⟨⟨⟨h1, h2⟩, h3⟩, h4⟩, h5⟩, h6⟩ := h
          subst h1
          cases tgx with
          | Tuple es k tp => exact pi_zipD (gl_ok w h3) (w.fre _ h2) (chk_shp h5) (chk_shp h6) (sE a w tk ok.1 h5).v (sE b w tk ok.2 h6).v
          | _ => cases h4
      | _ => simp [chkIt] at h
    | _ => simp [chkIt] at h
  | .zip3 a b c, X, bk, W, bor, tgx, x, w, tk, ok, h => by
    cases x with
    | Call f xs ks p =>
      cases f with
      | Name fn pf =>
        match xs, ks, h with
        | xs, _ :: _, h => rcases xs with _ | ⟨_, _ | ⟨_, _ | ⟨_, _ | ⟨_, _⟩⟩⟩⟩ <;> simp [chkIt] at h
        | [], [], h => simp [chkIt] at h
        | [_], [], h => simp [chkIt] at h
        | [_, _], [], h => simp [chkIt] at h
        | _ :: _ :: _ :: _ :: _, [], h => simp [chkIt] at h
        | [xa, xb, xc], [], h =>
          simp only [chkIt, Bool.and_eq_true, decide_eq_true_eq] at h
          obtain ⟨⟨⟨⟨⟨⟨h1, h2⟩, h3⟩, h4⟩, h5⟩, h6⟩, h7⟩ := h
          subst h1
          cases tgx with
          | Tuple es k tp => exact pi_zip3D (gl_ok w h3) (w.fre _ h2) (chk_shp h5) (chk_shp h6) (chk_shp h7) (sE a w tk ok.1 h5).v (sE b w tk ok.2.1 h6).v (sE c w tk ok.2.2 h7).v
          | _ => cases h4
      | _ => simp [chkIt] at h
    | _ => simp [chkIt] at h
  | .enu a, X, bk, W, bor, tgx, x, w, tk, ok, h => by
    cases x with
    | Call f xs ks p =>
      cases f with
      | Name fn pf =>
        match xs, ks, h with
        | xs, _ :: _, h => rcases xs with _ | ⟨_, _ | ⟨_, _ | ⟨_, _⟩⟩⟩ <;> simp [chkIt] at h
        | [], [], h => simp [chkIt] at h
        | _ :: _ :: _, [], h => simp [chkIt] at h
        | [xa], [], h =>
          simp only [chkIt, Bool.and_eq_true, decide_eq_true_eq] at h
          obtain ⟨⟨⟨⟨h1, h2⟩, h3⟩, h4⟩, h5⟩ := h
          subst h1
          cases tgx with
          | Tuple es k tp => exact pi_enuD (gl_ok w h3) (w.fre _ h2) (chk_shp h5) (sE a w tk ok h5).v
          | _ => cases h4
      | _ => simp [chkIt] at h
    | _ => simp [chkIt] at h
  | .rg1 a, X, bk, W, bor, tgx, x, w, tk, ok, h => by
    cases x with
    | Call f xs ks p =>
      cases f with
      | Name fn pf =>
        match xs, ks, h with
        | xs, _ :: _, h => rcases xs with _ | ⟨_, _ | ⟨_, _ | ⟨_, _⟩⟩⟩ <;> simp [chkIt] at h
        | [], [], h => simp [chkIt] at h
        | _ :: _ :: _, [], h => simp [chkIt] at h
        | [xa], [], h =>
          simp only [chkIt, Bool.and_eq_true, decide_eq_true_eq] at h
          obtain ⟨⟨⟨h1, h2⟩, h3⟩, h5⟩ := h
          subst h1
          exact pi_rg1 (gl_ok w h3) (w.fre _ h2) (chk_shp h5) (sE a w tk ok h5).v
      | _ => simp [chkIt] at h
    | _ => simp [chkIt] at h
  | .rg2 a b, X, bk, W, bor, tgx, x, w, tk, ok, h => by
    cases x with
    | Call f xs ks p =>
      cases f with
      | Name fn pf =>
        match xs, ks, h with
        | xs, _ :: _, h => rcases xs with _ | ⟨_, _ | ⟨_, _ | ⟨_, _⟩⟩⟩ <;> simp [chkIt] at h
        | [], [], h => simp [chkIt] at h
        | [_], [], h => simp [chkIt] at h
        | _ :: _ :: _ :: _, [], h => simp [chkIt] at h
        | [xa, xb], [], h =>
          simp only [chkIt, Bool.and_eq_true, decide_eq_true_eq] at h
          obtain ⟨⟨⟨⟨h1, h2⟩, h3⟩, h5⟩, h6⟩ := h
          subst h1
          exact pi_rg2 (gl_ok w h3) (w.fre _ h2) (chk_shp h5) (chk_shp h6) (sE a w tk ok.1 h5).v (sE b w tk ok.2 h6).v
      | _ => simp [chkIt] at h
    | _ => simp [chkIt] at h
theorem sCs : ∀ (cs : Cs) {X : Cx} {bk : Bk} {W : WD} {xs : List Expr}, Wf X G T cv bk ea → Takes X (wx cv W) → cs.okT T → chkCs G bk cs xs = true → PTs X xs (rdT X.K F0 H0 ea W (evCs cs))
  | .nil, X, bk, W, xs, w, tk, ok, h => by
    cases xs with
    | nil => exact PTsi pts_nil fun σ H Q ⟨F, env, r, q⟩ => AnsW.here r.sub q
    | cons _ _ => simp [chkCs] at h
  | .one e, X, bk, W, xs, w, tk, ok, h => by
    match xs, h with
    | [], h => simp [chkCs] at h
    | _ :: _ :: _, h => simp [chkCs] at h
    | [x], h => exact pts_one ((sE (bor := false) e w tk ok (by simpa [chkCs] using h)).t rfl)
end
end
end Fp

set_option Elab.async false
set_option linter.all false
set_option maxRecDepth 100000
set_option maxHeartbeats 2000000
/-! Statements, by readings. -/
namespace Fp
open PySem PySem.Spec PyProof.Rows L2
def AnsS (K : PySem.W.Frag) (F0 H0 : Hp) (ea : Ea) (W : WD) (F : Hp) (x : Fl) (D : Ends) : Prop := match x with
  | .nx env' => ∀ σ' F' H', Same F F' → Rel K F0 H0 ea env' σ' F' H' → D.nx σ' H'
  | .rt d => ∀ v F' H', Same F F' → Ext F0 H0 F' H' → Rp K F' v d → D.rt v H'
  | .ex c env' => ∀ σ' F' H', Same F F' → Rel K F0 H0 ea env' σ' F' H' → W c σ' H'
  | .no => False
def rdS (K : PySem.W.Frag) (F0 H0 : Hp) (ea : Ea) (W : WD) (x : Fp.Env → Fl) : TS := fun D σ H => ∃ F env, Rel K F0 H0 ea env σ F H ∧ AnsS K F0 H0 ea W F (x env) D
section
variable {K : PySem.W.Frag} {F0 H0 F H F1 H1 : Hp} {ea : Ea} {W : WD} {env : Fp.Env} {σ : L2.St} {D : Ends}
theorem AnsS.grow {x : Fl} (h : AnsS K F0 H0 ea W F x D) (e : Same F F1) : AnsS K F0 H0 ea W F1 x D := by
  cases x with
  | nx env' => exact fun σ' F' H' s r => h σ' F' H' (e.trans s) r
  | rt d => exact fun v F' H' s r => h v F' H' (e.trans s) r
  | ex c env' => exact fun σ' F' H' s r => h σ' F' H' (e.trans s) r
  | no => exact h
/-- behind an expression -/
theorem AnsS.ofR {f : Fp.D → Fl} {S : Fp.D → Hp → Hp → Prop} {x : R Fp.D} (r : Rel K F0 H0 ea env σ F H) (h : AnsS K F0 H0 ea W F (ofR env x f) D) (k : ∀ d F' H', x = .ok d → Ext F H F' H' → AnsS K F0 H0 ea W F' (f d) D → S d F' H') :
    AnsW F H x S fun c H' => W c σ H' := by
  cases x with
  | ok d => exact fun F' H' e => k d F' H' rfl e (AnsS.grow (x := f d) h e.ff)
  | ex c => exact fun F' H' e => h σ F' H' e.ff (r.grow e)
  | no => exact h
theorem AnsS.then_ {x : Fl} {f : Fp.Env → Fl} {D' : Ends} (h : AnsS K F0 H0 ea W F (x.andThen f) D) (hr : D'.rt = D.rt) (k : ∀ e σ' F' H', Same F F' → Rel K F0 H0 ea e σ' F' H' → AnsS K F0 H0 ea W F' (f e) D → D'.nx σ' H') : AnsS K F0 H0 ea W F x D' := by
  cases x with
  | nx e => exact fun σ' F' H' s r => k e σ' F' H' s r (AnsS.grow (x := f e) h s)
  | rt d => exact fun v F' H' s r rp => by rw [hr]; exact h v F' H' s r rp
  | ex c e => exact h
  | no => exact h
/-! ### slots are stored -/
/-- no owned slot stands at v -/
def NotOwn (env : Fp.Env) (σ : L2.St) (v : V) : Prop := ∀ (i : Nat) (a : Addr), (∃ d, env[i]? = some (Slot.own d)) → σ[i]? = some (some (V.ref a)) → v ≠ .ref a
theorem Rel.setS {i : Nat} {s : Slot} {v : V} (r : Rel K F0 H0 ea env σ F H) (hs : SlotOk K H0 F H ea s (some v)) (hn : (∃ d, s = .own d) → NotOwn env σ v) : Rel K F0 H0 ea (env.set i s) (σ.set i (some v)) F H := by
  refine ⟨r.ext, by rw [List.length_set, List.length_set]; exact r.len, fun j s' x' h1 h2 => ?_, fun j k s' t' x' y' a hjk h1 h2 h3 h4 o1 o2 => ?_⟩
  · rcases set_get h1 with ⟨e1, e2, e3⟩ | ⟨e1, e2⟩
    · rcases set_get h2 with ⟨f1, f2, f3⟩ | ⟨f1, f2⟩
      · subst e2 f2; exact hs
      · exact absurd e1 f1
    · rcases set_get h2 with ⟨f1, f2, f3⟩ | ⟨f1, f2⟩
      · exact absurd f1 e1
      · exact r.slot j s' x' e2 f2
  · have cases_ : ∀ {m : Nat} {u : Slot} {z : Option V}, (env.set i s)[m]? = some u → (σ.set i (some v))[m]? = some z → (m = i ∧ u = s ∧ z = some v) ∨ (m ≠ i ∧ env[m]? = some u ∧ σ[m]? = some z) := fun {m u z} g1 g2 => by
      rcases set_get g1 with ⟨e1, e2, e3⟩ | ⟨e1, e2⟩
      · rcases set_get g2 with ⟨f1, f2, f3⟩ | ⟨f1, f2⟩
        · exact .inl ⟨e1, e2, f2⟩
        · exact absurd e1 f1
      · rcases set_get g2 with ⟨f1, f2, f3⟩ | ⟨f1, f2⟩
        · exact absurd f1 e1
        · exact .inr ⟨e1, e2, f2⟩
    rcases cases_ h1 h3 with ⟨a1, a2, a3⟩ | ⟨a1, a2, a3⟩
    · rcases cases_ h2 h4 with ⟨b1, b2, b3⟩ | ⟨b1, b2, b3⟩
      · exact hjk (a1.trans b1.symm)
      · subst a2 a3
        obtain ⟨⟨d, hd⟩, hv⟩ := o1
        obtain ⟨⟨d', hd'⟩, hv'⟩ := o2
        subst hd' hv'
        exact hn ⟨d, hd⟩ k a ⟨d', b2⟩ b3 (Option.some.inj hv)
    · rcases cases_ h2 h4 with ⟨b1, b2, b3⟩ | ⟨b1, b2, b3⟩
      · subst b2 b3
        obtain ⟨⟨d, hd⟩, hv⟩ := o2
        obtain ⟨⟨d', hd'⟩, hv'⟩ := o1
        subst hd' hv'
        exact hn ⟨d, hd⟩ j a ⟨d', a2⟩ a3 (Option.some.inj hv)
      · exact r.apart j k s' t' x' y' a hjk a2 b2 a3 b3 o1 o2
/-- a value that is new, or frozen -/
theorem Rel.notOwn (r : Rel K F0 H0 ea env σ F H) {p : Addr} (hp : H p = none) : NotOwn env σ (.ref p) := by
  intro i a hd h2 e
  obtain ⟨d, h1⟩ := hd
  obtain ⟨x, q1, a', o', w2, w3, w4, w5, w6⟩ := r.at h1
  subst w2
  rw [h2] at q1
  cases q1
  cases e
  rw [hp] at w6
  cases w6
theorem NotOwn.set {i : Nat} {s : Slot} {v w : V} (h : NotOwn env σ w) (hv : (∃ d, s = .own d) → w ≠ v) : NotOwn (env.set i s) (σ.set i (some v)) w := by
  intro j a hd h2
  obtain ⟨d, h1⟩ := hd
  rcases set_get h1 with ⟨e1, e2, e3⟩ | ⟨e1, e2⟩
  · rcases set_get h2 with ⟨f1, f2, f3⟩ | ⟨f1, f2⟩
    · cases f2
      exact hv ⟨d, e2.symm⟩
    · exact absurd e1 f1
  · rcases set_get h2 with ⟨f1, f2, f3⟩ | ⟨f1, f2⟩
    · exact absurd f1 e1
    · exact h j a ⟨d, e2⟩ f2
/-- what is owned changes -/
theorem Rel.mutO {i : Nat} {x0 y0 : Fp.D} {a : Addr} {o : HO} (r : Rel K F0 H0 ea env σ F H) (hi : env[i]? = some (Slot.own x0)) (hs : σ[i]? = some (some (V.ref a))) (rp : OwnO K F ea a y0 o) :
    Rel K F0 H0 ea (env.set i (.own y0)) σ F (upd H a o) := by
  obtain ⟨x, q1, a', o', w2, w3, w4, w5, w6⟩ := r.at hi
  subst w2
  rw [hs] at q1
  cases q1
  have hil : i < env.length := (List.getElem?_eq_some_iff.mp hi).1
  refine ⟨r.ext.mut w5 w4, by rw [List.length_set]; exact r.len, fun j s x h1 h2 => ?_, fun j k s t x y b hjk h1 h2 h3 h4 o1 o2 => ?_⟩
  · rcases set_get h1 with ⟨e1, e2, e3⟩ | ⟨e1, e2⟩
    · subst e1 e2
      rw [hs] at h2
      cases h2
      exact ⟨a, o, rfl, rp, w4, w5, upd_same⟩
    · have q := r.slot j s x e2 h2
      cases s with
      | un => trivial
      | exc c => exact q
      | val d => exact q
      | own d =>
        obtain ⟨b, o', z1, z2, z3, z4, z5⟩ := q
        refine ⟨b, o', z1, z2, z3, z4, ?_⟩
        rw [upd_ne ?_]
        · exact z5
        · intro e
          subst e
          exact r.apart j i _ _ _ _ b e1 e2 hi h2 hs ⟨⟨d, rfl⟩, z1⟩ ⟨⟨_, rfl⟩, rfl⟩
  · have old : ∀ {m : Nat} {u : Slot} {z : Option V}, (env.set i (.own y0))[m]? = some u → σ[m]? = some z → ownA u z b → ∃ u', env[m]? = some u' ∧ ownA u' z b := fun {m u z} g1 g2 o => by
      rcases set_get g1 with ⟨e1, e2, e3⟩ | ⟨e1, e2⟩
      · subst e1 e2
        exact ⟨_, hi, ⟨_, rfl⟩, o.2⟩
      · exact ⟨u, e2, o⟩
    obtain ⟨s', a1, a2⟩ := old h1 h3 o1
    obtain ⟨t', b1, b2⟩ := old h2 h4 o2
    exact r.apart j k s' t' x y b hjk a1 b1 h3 h4 a2 b2
/-- an owned list changes -/
theorem Rel.mut {i : Nat} {xs ys : List Fp.D} {a : Addr} {ws : List V} (r : Rel K F0 H0 ea env σ F H) (hi : env[i]? = some (Slot.own (.list xs))) (hs : σ[i]? = some (some (V.ref a))) (rp : RpAll K F ws ys) :
    Rel K F0 H0 ea (env.set i (.own (.list ys))) σ F (upd H a (.lst ws)) := r.mutO hi hs ⟨ws, rfl, rp⟩
/-- an owned list is frozen -/
theorem Rel.freeze {i : Nat} {ds : List Fp.D} (r : Rel K F0 H0 ea env σ F H) (hi : env[i]? = some (Slot.own (.list ds))) : ∃ F', Same F F' ∧ Rel K F0 H0 ea (env.set i (.val (.list ds))) σ F' H := by
  obtain ⟨x, q1, a, o, w2, ⟨vs, w3, w7⟩, w4, w5, w6⟩ := r.at hi
  subst w2 w3
  have hf : Same F (upd F a (.lst vs)) := Fp.Same.upd w4
  refine ⟨upd F a (.lst vs), hf, r.ext.freeze w5 w6 w4, by rw [List.length_set]; exact r.len, fun j s x h1 h2 => ?_, fun j k s t x y b hjk h1 h2 h3 h4 o1 o2 => ?_⟩
  · rcases set_get h1 with ⟨e1, e2, e3⟩ | ⟨e1, e2⟩
    · subst e1 e2
      rw [q1] at h2
      cases h2
      exact ⟨.ref a, rfl, .lst (LsX.of upd_same) (w7.mono hf)⟩
    · have q := r.slot j s x e2 h2
      cases s with
      | un => trivial
      | exc c => exact q
      | val d =>
        obtain ⟨v, h1, h2⟩ := q
        exact ⟨v, h1, h2.mono hf⟩
      | own d =>
        obtain ⟨b, o', z1, z2, z3, z4, z5⟩ := q
        refine ⟨b, o', z1, z2.mono hf, ?_, z4, z5⟩
        rw [upd_ne ?_]
        · exact z3
        · intro e
          subst e
          exact r.apart j i _ _ _ _ b e1 e2 hi h2 q1 ⟨⟨d, rfl⟩, z1⟩ ⟨⟨_, rfl⟩, rfl⟩
  · have old : ∀ {m : Nat} {u : Slot} {z : Option V}, (env.set i (.val (.list ds)))[m]? = some u → ownA u z b → env[m]? = some u := fun {m u z} g1 o => by
      rcases set_get g1 with ⟨e1, e2, e3⟩ | ⟨e1, e2⟩
      · obtain ⟨⟨d, hd⟩, _⟩ := o
        subst e2; cases hd
      · exact e2
    exact r.apart j k s t x y b hjk (old h1 o1) (old h2 o2) h3 h4 o1 o2
theorem noExc_get {i : Nat} {s : Slot} (h : (noExc env)[i]? = some s) : (∃ c, env[i]? = some (.exc c) ∧ s = .un) ∨ (env[i]? = some s ∧ ∀ c, s ≠ .exc c) := by
  unfold noExc at h
  rw [List.getElem?_map] at h
  cases e : env[i]? with
  | none => rw [e] at h; cases h
  | some u =>
    rw [e] at h
    cases u with
    | exc c => cases h; exact .inl ⟨c, rfl, rfl⟩
    | un => cases h; exact .inr ⟨rfl, fun _ z => nomatch z⟩
    | val d => cases h; exact .inr ⟨rfl, fun _ z => nomatch z⟩
    | own d => cases h; exact .inr ⟨rfl, fun _ z => nomatch z⟩
theorem Rel.noExc (r : Rel K F0 H0 ea env σ F H) (eb : Ea) (hP : eb.P = ea.P) (hw : eb.w = ea.w) : Rel K F0 H0 eb (noExc env) σ F H := by
  refine ⟨r.ext, by unfold Fp.noExc; rw [List.length_map]; exact r.len, fun i s x h1 h2 => ?_, fun j k s t x y b hjk h1 h2 h3 h4 o1 o2 => ?_⟩
  · rcases noExc_get h1 with ⟨c, e1, e2⟩ | ⟨e1, e2⟩
    · subst e2; trivial
    · have q := r.slot i s x e1 h2
      cases s with
      | un => trivial
      | exc c => exact absurd rfl (e2 c)
      | val d => exact q
      | own d =>
        obtain ⟨b, o, z1, z2, z3, z4, z5⟩ := q
        exact ⟨b, o, z1, z2.ea hP hw, z3, z4, z5⟩
  · have old : ∀ {m : Nat} {u : Slot} {z : Option V}, (Fp.noExc env)[m]? = some u → ownA u z b → env[m]? = some u := fun {m u z} g1 o => by
      rcases noExc_get g1 with ⟨c, e1, e2⟩ | ⟨e1, e2⟩
      · obtain ⟨⟨d, hd⟩, _⟩ := o
        subst e2; cases hd
      · exact e1
    exact r.apart j k s t x y b hjk (old h1 o1) (old h2 o2) h3 h4 o1 o2
end
theorem PSi {X : Cx} {st : Stmt} {t t' : TS} (h : PS X st t) (k : ∀ D σ H, t' D σ H → t D σ H) : PS X st t' := ⟨fun pins s σ H D I q => h.run pins s σ H D I (k D σ H q)⟩
theorem PSsi {X : Cx} {st : List Stmt} {t t' : TS} (h : PSs X st t) (k : ∀ D σ H, t' D σ H → t D σ H) : PSs X st t' := ⟨fun pins s σ H D I q => h.run pins s σ H D I (k D σ H q)⟩
section
variable {X : Cx} {F0 H0 : Hp} {ea : Ea} {W : WD} {st : Stmt} {r : List Stmt} {a b : Expr} {xa xb : Fp.Env → R D} {f g : Fp.Env → Fl} {pos : Pos} {i : Nat} {y : Str} {py : Pos}
theorem pss_nilD : PSs X [] (rdS X.K F0 H0 ea W fun env => .nx env) := PSsi pss_nil fun D σ H ⟨F, env, r, q⟩ => q σ F H (Same.refl _) r
theorem pss_consD (h : PS X st (rdS X.K F0 H0 ea W f)) (k : PSs X r (rdS X.K F0 H0 ea W g)) : PSs X (st :: r) (rdS X.K F0 H0 ea W fun env => (f env).andThen g) :=
  PSsi (pss_cons h k) fun D σ H ⟨F, env, rl, q⟩ => ⟨F, env, rl, AnsS.then_ q rfl fun e σ' F' H' s r' q' => ⟨F', e, r', q'⟩⟩
theorem ps_passD : PS X (.Pass pos) (rdS X.K F0 H0 ea W fun env => .nx env) := PSi ps_pass fun D σ H ⟨F, env, r, q⟩ => q σ F H (Same.refl _) r
theorem ps_retD (ha : PE X a (rdV X.K F0 H0 ea W false xa)) : PS X (.Return (some a) pos) (rdS X.K F0 H0 ea W fun env => ofR env (xa env) fun d => .rt d) :=
  PSi (ps_ret ha) fun D σ H ⟨F, env, r, q⟩ => ⟨F, env, r, AnsS.ofR (x := xa env) (D := D) r q fun d F' H' _ e k v hv => k v F' H' (Same.refl _) (r.ext.trans e) hv⟩
def notLC : Expr → Bool
  | .ListComp _ _ _ _ => false
  | _ => true
theorem sw_none {t : Option Expr} {l : Nat} {env : PySem.Env} (hs : shp a = true) (hn : notLC a = true) : swapsWith a t l env = pure false := by
  cases a <;> first
    | rfl
    | (cases hs; done)
    | (cases hn; done)
theorem ps_expD (hs : shp a = true) (hn : notLC a = true) (ha : PE X a (rdV X.K F0 H0 ea W false xa)) : PS X (.Expr a pos) (rdS X.K F0 H0 ea W fun env => ofR env (xa env) fun _ => .nx env) :=
  PSi (ps_expr ha (sw_none hs hn)) fun D σ H ⟨F, env, r, q⟩ => ⟨F, env, r, AnsS.ofR (x := xa env) (D := D) r q fun d F' H' _ e k v hv => k σ F' H' (Same.refl _) (r.grow e)⟩
theorem ps_ifeD {p q : List Stmt} (hc : PT X a (rdT X.K F0 H0 ea W fun env => (xa env).bind asB)) (hp : PSs X p (rdS X.K F0 H0 ea W f)) (hq : PSs X q (rdS X.K F0 H0 ea W g)) :
    PS X (.If a p q pos) (rdS X.K F0 H0 ea W fun env => ofR env (xa env) fun d => match d with
      | .bool true => f env
      | .bool false => g env
      | _ => .no) :=
  PSi (ps_if hc hp hq) fun D σ H ⟨F, env, r, q⟩ => by
    refine ⟨F, env, r, ?_⟩
    revert q
    dsimp only
    cases xa env with
    | ok d =>
      cases d with
      | bool k =>
        cases k with
        | true => exact fun q F' H' e => ⟨F', env, r.grow e, AnsS.grow (x := f env) q e.ff⟩
        | false => exact fun q F' H' e => ⟨F', env, r.grow e, AnsS.grow (x := g env) q e.ff⟩
      | _ => exact fun q => q.elim
    | ex c => exact fun q F' H' e => q σ F' H' e.ff (r.grow e)
    | no => exact fun q => q
/-! ### name = value -/
abbrev SetsA (X : Cx) (y : Str) (py : Pos) (x : Expr) (spos : Pos) (i : Nat) (t : TE) : Prop := PS X (.Assign [.Name y py] x spos) (tAsg t (gName i))
theorem ps_asnD (h : SetsA X y py a pos i (rdV X.K F0 H0 ea W false xa)) : PS X (.Assign [.Name y py] a pos) (rdS X.K F0 H0 ea W fun env => ofR env (xa env) fun d => ofE (asg (.nm i) d env)) :=
  PSi h fun D σ H ⟨F, env, r, q⟩ => ⟨F, env, r, AnsS.ofR (x := xa env) (D := D) r q fun d F' H' _ e k v hv => by
    have hv : Rp X.K F' v d := hv
    unfold asg at k
    split at k
    · exact k _ F' H' (Same.refl _) ((r.grow e).setN ⟨v, rfl, hv⟩ fun _ z => nomatch z)
    · exact k.elim⟩
theorem ps_ownD (h : SetsA X y py a pos i (rdG X.K F0 H0 ea W xa)) : PS X (.Assign [.Name y py] a pos) (rdS X.K F0 H0 ea W fun env => ofR env (xa env) fun d => match d with
    | .list xs => ofE (setS i (.own (.list xs)) env)
    | _ => .no) :=
  PSi h fun D σ H ⟨F, env, r, q⟩ => ⟨F, env, r, AnsS.ofR (x := xa env) (D := D) r q fun d F' H' _ e k => by
    refine ⟨fun v nl hv => ?_, fun ds p vs ed hp ho hf hr => ?_⟩
    · cases d with
      | list xs => exact absurd rfl (nl xs)
      | _ => exact k.elim
    · subst ed
      dsimp only at k
      unfold setS at k
      split at k
      · exact k _ F' H' (Same.refl _) ((r.grow e).setS ⟨p, _, rfl, ⟨vs, rfl, hr⟩, hf, r.ext.hh.free hp, ho⟩ fun _ => fun j b hd h2 => r.notOwn hp j b hd h2)
      · exact k.elim⟩
theorem sets_plain (nd : X.N.Nodup) (hi : X.N[i]? = some y) (hx : Loc X.env.scope y) (hf : X.fn y = true ∨ X.env.scope.names.lookup y = some .local) {t : TE} (ha : PE X a t) (hs : swapsWith a (some (.Name y py)) pos.line X.env = pure false) : SetsA X y py a pos i t :=
  ps_set nd hi hx ha hs hf
end
end Fp

set_option Elab.async false
set_option linter.all false
set_option maxRecDepth 100000
set_option maxHeartbeats 2000000
/-! Loops, lists that change, several names, refusals. -/
namespace Fp
open PySem PySem.Spec PyProof.Rows L2
section
variable {X : Cx} {F0 H0 : Hp} {ea : Ea} {W : WD} {st : Stmt} {r : List Stmt} {a b c : Expr} {xa xb xc : Fp.Env → R D} {f g : Fp.Env → Fl} {pos : Pos} {i j l : Nat} {y z : Str} {py pz : Pos}
/-! ### loops -/
theorem ps_forD {tgx : Expr} {tg : Tg} {xi : Fp.Env → R (List D)} {body : List Stmt} (po : PassesOwn (model X.prog X.w) X.A X.env X.xe) (hc : X.calm = true) (hs : shp a = true) (hi : PI X tgx a (rdI X.K F0 H0 ea W false xi)) (hg : PG X tgx (rdP X.K F0 H0 ea tg))
    (hb : PSs X body (rdS X.K F0 H0 ea W f)) : PS X (.For tgx a body [] pos) (rdS X.K F0 H0 ea W fun env => match xi env with
      | .ok xs => forGo (fun x env => match asg tg x env with
        | .ok e => f e
        | _ => .no) xs env
      | .ex c => .ex c env
      | .no => .no) :=
  PSi (ps_for po hc hi hg hb (shp_fold hs)) fun D σ H ⟨F, env, r, q⟩ => by
    refine ⟨F, env, r, ?_⟩
    revert q
    dsimp only
    cases xi env with
    | no => exact fun q => q
    | ex c => exact fun q F' H' e => q σ F' H' e.ff (r.grow e)
    | ok xs =>
      intro q F1 H1 e1 J wk
      refine ⟨fun i m σ H => m = xs.length - i ∧ i ≤ xs.length ∧ ∃ F' env', Rel X.K F0 H0 ea env' σ F' H ∧ Same F1 F' ∧ AnsS X.K F0 H0 ea W F' (forGo (fun x env => match asg tg x env with
        | .ok e => f e
        | _ => .no) (xs.drop i) env') D, ⟨xs.length, by simp, Nat.zero_le _, F1, env, r.grow e1, Same.refl _, by rw [List.drop_zero]; exact AnsS.grow q e1.ff⟩, ?_⟩
      rintro i m σ' H' ⟨rfl, hi, F', env', r', sf, q'⟩
      have pk : Pk false F1 H1 F' H' := ⟨sf, r'.sub⟩
      by_cases hlt : i < xs.length
      · have hd : xs.drop i = xs[i] :: xs.drop (i + 1) := List.drop_eq_getElem_cons hlt
        rw [hd] at q'
        obtain ⟨g1, g2⟩ := wk.go i xs[i] F' H' (List.getElem?_eq_getElem hlt) pk
        refine .inr ⟨g1, fun σ2 H2 => ∃ F' env', Rel X.K F0 H0 ea env' σ2 F' H2 ∧ Same F1 F' ∧ AnsS X.K F0 H0 ea W F' (forGo (fun x env => match asg tg x env with
          | .ok e => f e
          | _ => .no) (xs.drop (i + 1)) env') D, fun σ2 H2 p => ⟨xs.length - (i + 1), by omega, rfl, hlt, p⟩, fun x H3 hy => ?_⟩
        obtain ⟨F3, e3, rx⟩ := g2 x H3 hy
        rw [forGo] at q'
        cases ha : asg tg xs[i] env' with
        | ok env2 =>
          rw [ha] at q'
          refine ⟨F3, env', xs[i], env2, r'.grow e3, rx, ha, fun σ2 r2 _ _ => ⟨F3, env2, r2, ?_⟩⟩
          exact AnsS.then_ (AnsS.grow q' e3.ff) rfl fun e σ3 F4 H4 s4 r4 q4 => ⟨F4, e, r4, (sf.trans e3.ff).trans s4, q4⟩
        | ex c => rw [ha] at q'; exact q'.elim
        | no => rw [ha] at q'; exact q'.elim
      · have e : i = xs.length := by omega
        subst e
        rw [List.drop_eq_nil_of_le (Nat.le_refl _), forGo] at q'
        exact .inl ⟨wk.stop F' H' pk, q' σ' F' H' (Same.refl _) r'⟩
theorem ps_whlD {body : List Stmt} (po : PassesOwn (model X.prog X.w) X.A X.env X.xe) (hc : PT X a (rdT X.K F0 H0 ea W fun env => (xa env).bind asB)) (hb : PSs X body (rdS X.K F0 H0 ea W f)) (n : Nat) :
    PS X (.While a body [] pos) (rdS X.K F0 H0 ea W (whlGo xa f n)) :=
  PSi (ps_while po hc hb) fun D σ H ⟨F, env, r, q⟩ => by
    refine ⟨fun m σ H => ∃ F env, Rel X.K F0 H0 ea env σ F H ∧ AnsS X.K F0 H0 ea W F (whlGo xa f m env) D, ⟨n, F, env, r, q⟩, ?_⟩
    rintro m σ1 H1 ⟨F1, env1, r1, q1⟩
    cases m with
    | zero => exact q1.elim
    | succ m =>
      refine ⟨F1, env1, r1, ?_⟩
      rw [whlGo] at q1
      revert q1
      dsimp only
      cases xa env1 with
      | no => exact fun q => q
      | ex c => exact fun q F' H' e => q σ1 F' H' e.ff (r1.grow e)
      | ok d =>
        cases d with
        | bool k =>
          cases k with
          | false => exact fun q F' H' e => q σ1 F' H' e.ff (r1.grow e)
          | true =>
            intro q F' H' e
            have q : AnsS X.K F0 H0 ea W F1 ((f env1).andThen (whlGo xa f m)) D := q
            refine ⟨fun σ2 H2 => ∃ F env, Rel X.K F0 H0 ea env σ2 F H2 ∧ AnsS X.K F0 H0 ea W F (whlGo xa f m env) D, fun σ2 H2 p => ⟨m, Nat.lt_succ_self m, p⟩, F', env1, r1.grow e, ?_⟩
            exact AnsS.then_ (AnsS.grow q e.ff) rfl fun e σ3 F4 H4 s4 r4 q4 => ⟨F4, e, r4, q4⟩
        | _ => exact fun q => q.elim
/-! ### lists that change -/
theorem withO_ok {env : Fp.Env} {i : Nat} {k : List D → Fl} {F : Hp} {D : Ends} (h : AnsS X.K F0 H0 ea W F (withO env i k) D) : ∃ xs, env[i]? = some (Slot.own (.list xs)) ∧ AnsS X.K F0 H0 ea W F (k xs) D := by
  unfold withO at h
  split at h
  · exact ⟨_, by assumption, h⟩
  · exact h.elim
theorem ps_appD (hN : X.N[i]? = some y) (hv : Vis X.env.scope y) (hd : okNm y = true) {apos : Pos} {pn : Pos} (hl : (apos.endLine == pos.line) = true) (hs : shp a = true) (ha : PE X a (rdV X.K F0 H0 ea W false xa)) :
    PS X (.Expr (.Call (.Attribute (.Name y pn) "append" apos) [a] [] pos) py) (rdS X.K F0 H0 ea W fun env => withO env i fun xs => ofR env (xa env) fun d => ofE (if xs.length < 16777216 then setS i (.own (.list (xs ++ [d]))) env else .no)) := by
  have hfew : ((backTo pos (starEach (a :: []) X.env)).all (fun x => !x.1) && (backToKw pos (keywordEach [] X.env)).all (fun x => x.1.isSome)
      && decide ((a :: ([] : List Expr)).length + ([] : List Keyword).length + (if ([] : List Keyword).isEmpty then 0 else 1) < 30)) = true := by
    rw [shp_star hs]
    rfl
  refine PSi (ps_expr (pe_bm PySem.F.plainAttrs_list PySem.F.slot_list_append PySem.F.type_list_append mt_append (pe_var hN hv (nm_ok hd).1 (nm_ok hd).2.1) (pa_cons ha pa_nil (shp_star hs _)) rfl hfew hl (shp_star hs _) rfl) rfl) fun D σ H ⟨F, env, r, q⟩ => ?_
  obtain ⟨xs, hi, q⟩ := withO_ok q
  obtain ⟨p, vs, ds, h1, h2, h3, h4, h5, h6⟩ := r.own hi
  cases h2
  refine ⟨.ref p, h1, .inl ⟨rfl, vs, SqL.of h5⟩, F, env, r, AnsS.ofR (x := xa env) (D := D) r q fun d F' H' _ e k v hv => ?_⟩
  have hv : Rp X.K F' v d := hv
  have hil : i < env.length := (List.getElem?_eq_some_iff.mp hi).1
  have hlen := h6.length
  split at k
  · rename_i hz
    unfold setS at k
    rw [if_pos hil] at k
    refine ⟨p, vs, v, rfl, rfl, e.hh _ _ h5, by rw [sz_eq, hlen]; exact hz, ?_⟩
    exact k σ F' _ (Same.refl _) ((r.grow e).mut hi h1 ((h6.mono e.ff).append (.cons hv .nil)))
  · exact k.elim
theorem ps_popD {pos2 apos2 apos : Pos} {pn pm : Pos} (hij : i ≠ j) (hN : X.N[i]? = some y) (hv : Vis X.env.scope y) (hd : okNm y = true) (hN2 : X.N[j]? = some z) (hv2 : Vis X.env.scope z) (hd2 : okNm z = true) (hl : (apos.endLine == pos.line) = true) (hl2 : (apos2.endLine == pos2.line) = true)
    (hs : shp a = true) (ha : PE X a (rdV X.K F0 H0 ea W false xa)) :
    PS X (.Expr (.Call (.Attribute (.Name y pn) "append" apos) [.Call (.Attribute (.Name z pm) "pop" apos2) [a] [] pos2] [] pos) py) (rdS X.K F0 H0 ea W fun env => withO env i fun xs => withO env j fun ys => if i = j then .no else ofR env (xa env) fun k => match k with
    | .int n => (match ixN ys.length n with
      | some m => (match ys[m]? with
        | some d => if xs.length < 16777216 ∧ ys.length ≤ 16777216 then .nx ((env.set j (.own (.list (ys.eraseIdx m)))).set i (.own (.list (xs ++ [d])))) else .no
        | none => .no)
      | none => .no)
    | _ => .no) := by
  have hfew : ((backTo pos2 (starEach (a :: []) X.env)).all (fun x => !x.1) && (backToKw pos2 (keywordEach [] X.env)).all (fun x => x.1.isSome)
      && decide ((a :: ([] : List Expr)).length + ([] : List Keyword).length + (if ([] : List Keyword).isEmpty then 0 else 1) < 30)) = true := by
    rw [shp_star hs]
    rfl
  have hp : PE X (.Call (.Attribute (.Name z pm) "pop" apos2) [a] [] pos2) (tBM X.K "list" rPopAt (tVar j) (tCons (rdV X.K F0 H0 ea W false xa) tNil)) :=
    pe_bm PySem.F.plainAttrs_list PySem.F.slot_list_pop PySem.F.type_list_pop mt_popAt (pe_var hN2 hv2 (nm_ok hd2).1 (nm_ok hd2).2.1) (pa_cons ha pa_nil (shp_star hs _)) rfl hfew hl2 (shp_star hs _) rfl
  refine PSi (ps_expr (pe_bm PySem.F.plainAttrs_list PySem.F.slot_list_append PySem.F.type_list_append mt_append (pe_var hN hv (nm_ok hd).1 (nm_ok hd).2.1) (pa_cons hp pa_nil rfl) rfl rfl hl rfl rfl) rfl) fun D σ H ⟨F, env, r, q⟩ => ?_
  obtain ⟨xs, hi, q⟩ := withO_ok q
  obtain ⟨ys, hj, q⟩ := withO_ok q
  rw [if_neg hij] at q
  obtain ⟨p, vs, ds, h1, h2, h3, h4, h5, h6⟩ := r.own hi
  cases h2
  obtain ⟨p2, vs2, ds2, k1, k2, k3, k4, k5, k6⟩ := r.own hj
  cases k2
  have hne : p ≠ p2 := fun e => by
    subst e
    exact r.apart i j _ _ _ _ p hij hi hj h1 k1 ⟨⟨_, rfl⟩, rfl⟩ ⟨⟨_, rfl⟩, rfl⟩
  refine ⟨.ref p, h1, .inl ⟨rfl, vs, SqL.of h5⟩, .ref p2, k1, .inl ⟨rfl, vs2, SqL.of k5⟩, F, env, r, AnsS.ofR (x := xa env) (D := D) r q fun d F' H' _ e k v hv => ?_⟩
  have hv : Rp X.K F' v d := hv
  cases d with
  | int n =>
    cases hv
    dsimp only at k
    split at k
    · rename_i m hm
      split at k
      · rename_i d hdm
        split at k
        · rename_i hz
          obtain ⟨s1, s2, s3, s4⟩ := ixN_seq hm
          obtain ⟨w, hw, rw'⟩ := k6.get hdm
          have l2 := k6.length
          refine ⟨p2, vs2, n, m, w, rfl, rfl, e.hh _ _ k5, ?_, ?_, by rw [l2]; exact s1, hw, ?_⟩
          · have := hz.2; omega
          · have := hz.2; omega
          · have r2 := (r.grow e).mut hj k1 ((k6.mono e.ff).eraseIdx m)
            have hi2 : (env.set j (.own (.list (ys.eraseIdx m))))[i]? = some (Slot.own (.list xs)) := by rw [List.getElem?_set_ne (fun e => hij e.symm)]; exact hi
            refine ⟨p, vs, w, rfl, rfl, by rw [upd_ne hne]; exact e.hh _ _ h5, by rw [sz_eq, h6.length]; exact hz.1, ?_⟩
            exact k σ F' _ (Same.refl _) (r2.mut hi2 h1 ((h6.mono e.ff).append (.cons (rw'.mono e.ff) .nil)))
        · exact k.elim
      · exact k.elim
    · exact k.elim
  | _ => exact k.elim
/-! ### dicts that change -/
theorem withD_ok {env : Fp.Env} {i : Nat} {k : Bool → List (D × D) → Fl} {F : Hp} {D : Ends} (h : AnsS X.K F0 H0 ea W F (withD env i k) D) : ∃ t ps, env[i]? = some (Slot.own (dV t ps)) ∧ AnsS X.K F0 H0 ea W F (k t ps) D := by
  unfold withD at h
  split at h
  · exact ⟨false, _, by assumption, h⟩
  · exact ⟨true, _, by assumption, h⟩
  · exact h.elim
theorem ps_dnewD {xd : Fp.Env → R (Bool × List (D × D))} (h : SetsA X y py a pos i (rdD X.K F0 H0 ea W true xd)) : PS X (.Assign [.Name y py] a pos) (rdS X.K F0 H0 ea W fun env => match xd env with
    | .ok (t, ps) => ofE (setS i (.own (dV t ps)) env)
    | .ex c => .ex c env
    | .no => .no) :=
  PSi h fun D σ H ⟨F, env, r, q⟩ => by
    refine ⟨F, env, r, ?_⟩
    revert q
    dsimp only
    cases xd env with
    | no => exact fun q => q
    | ex c => exact fun q F' H' e => q σ F' H' e.ff (r.grow e)
    | ok p =>
      obtain ⟨t, ps⟩ := p
      intro q F' H' e v o h1 h2 h3 h4
      dsimp only at q
      unfold setS at q
      split at q
      · have hv := h4 rfl
        exact q _ F' H' e.ff ((r.grow e).setS ⟨v, o, rfl, h3.own, h2, r.ext.hh.free hv, h1⟩ fun _ => fun j b hd h2 => r.notOwn hv j b hd h2)
      · exact q.elim
/-- o[i] = v of an owned dict, by values -/
def rSetDic (K : PySem.W.Frag) (ea : Ea) : TSet := fun o i v H Q => ∃ F aa o' t ps kd d, o = .ref aa ∧ Same F H ∧ H aa = some o' ∧ DicO K F ea aa t ps o' ∧ okK t kd = true ∧ ps.length < 16777216 ∧ Rp K F i kd ∧ Rp K F v d ∧ ∀ o'', DicO K F ea aa t (dStore ps kd d) o'' → Q (upd H aa o'')
theorem set_dic (ep : EaOk X ea) (hr : Rm X) : PSet X (rSetDic X.K ea) := by
  intro pins s σ H o i v ov iv u Q I ro ri rv ⟨F, aa, o', t, ps, kd, d, eo, sm, h1, h2, h3, h4, h5, h6, h7⟩
  subst eo
  obtain rfl : ov = Value.ref aa := ro
  exact dic_set hr.room I sm ep h1 h2 h3 h4 h5 ri rv h6 fun o'' s' hd I' => ⟨_, I', h7 o'' hd⟩
theorem put_ok {t : Bool} {ps ps' : List (D × D)} {k v : D} (h : dPut t ps k v = .ok ps') : okK t k = true ∧ ps.length < 16777216 ∧ ps' = dStore ps k v := by
  unfold dPut at h
  split at h
  · rename_i hk
    cases h
    exact ⟨hk.1, hk.2, rfl⟩
  · cases h
theorem sw_sub {o ix e : Expr} {p : Pos} {env : PySem.Env} : swappedStores [.Subscript o ix p] e env = pure none := by
  unfold swappedStores
  rfl
theorem sole_sub {o ix e : Expr} {p : Pos} {l : Nat} {env : PySem.Env} (hs : shp e = true) (hn : notLC e = true) : swapsWithSole [.Subscript o ix p] e l env = pure false := by
  unfold swapsWithSole
  cases e <;> first
    | rfl
    | (cases hs; done)
    | (cases hn; done)
theorem asg_sub {o k : Expr} {p : Pos} {env : PySem.Env} (hs : shp k = true) : ∀ v, assign (.Subscript o k p) env v = (do
    let ov ← holding [v] (eval o env)
    let iv ← holding [v, ov] (eval k env)
    standAt p
    holding [v, ov, iv] (setItem ov iv v)
    release [v, ov, iv] []) := fun v => by
  cases k <;> first
    | rfl
    | (cases hs; done)
/-- d[k] = e -/
theorem ps_dstD {xk : Fp.Env → R D} {k v : Expr} {xv : Fp.Env → R D} {pn p2 : Pos} (ep : EaOk X ea) (hr : Rm X) (hN : X.N[i]? = some y) (hv : Vis X.env.scope y) (hd : okNm y = true) (hsk : shp k = true) (hsv : shp v = true) (hnv : notLC v = true) (hk : PE X k (rdV X.K F0 H0 ea W false xk)) (hx : PE X v (rdV X.K F0 H0 ea W false xv)) :
    PS X (.Assign [.Subscript (.Name y pn) k p2] v pos) (rdS X.K F0 H0 ea W fun env => ofR env (xv env) fun d => withD env i fun t ps => ofR env (xk env) fun kd => (match dPut t ps kd d with
      | .ok ps' => .nx (env.set i (.own (dV t ps')))
      | _ => .no)) :=
  PSi (ps_asg hx (pg_sub (pe_var hN hv (nm_ok hd).1 (nm_ok hd).2.1) hk (set_dic ep hr) (asg_sub hsk)) (sole_sub hsv hnv) sw_sub) fun D σ H ⟨F, env, r, q⟩ => ⟨F, env, r, AnsS.ofR (x := xv env) (D := D) r q fun d F1 H1 _ e1 q1 v1 r1 => by
    obtain ⟨t, ps, hi, q1⟩ := withD_ok q1
    have rr := r.grow e1
    obtain ⟨aa, o, h1, h2, h3, h4, h5⟩ := rr.dic hi
    refine ⟨.ref aa, h1, F1, env, rr, AnsS.ofR (x := xk env) (D := D) rr q1 fun kd F2 H2 _ e2 q2 v2 r2 => ?_⟩
    have r1 : Rp X.K F1 v1 d := r1
    have r2 : Rp X.K F2 v2 kd := r2
    split at q2
    · rename_i ps' hp
      obtain ⟨ok, hz, rfl⟩ := put_ok hp
      refine ⟨F2, aa, o, t, ps, kd, d, rfl, e2.sub, e2.hh _ _ h4, h5.mono e2.ff, ok, hz, r2, r1.mono e2.ff, fun o'' hd' => ?_⟩
      exact q2 σ F2 _ (Same.refl _) ((rr.grow e2).mutO hi h1 hd'.own)
    · exact q2.elim⟩
theorem swapS {o ix a b : Expr} {p q pt pt2 : Pos} {kt k2 : Nat} {z : Str} {env : PySem.Env} (ha : shp a = true) (hb : shp b = true) : swappedStores [.Tuple [.Subscript o ix p, .Name z q] kt pt] (.Tuple [a, b] k2 pt2) env = pure none := by
  have s1 : ([a, b].any fun | .Starred .. => true | _ => false) = false := by
    cases a <;> cases b <;> first
      | rfl
      | (cases ha; done)
      | (cases hb; done)
  unfold swappedStores
  dsimp only
  by_cases hk : env.blockKind = .function
  · refine Eq.trans (if_neg (by simp [hk])) (Eq.trans (if_neg fun e => Bool.noConfusion (s1.symm.trans e)) ?_)
    refine if_pos ?_
    rw [Bool.or_eq_true]
    refine .inl (bne_iff_ne.mpr ?_)
    rw [List.filterMap_cons]
    simp only
    rw [List.filterMap_cons]
    split <;> simp
  · refine if_pos ?_
    simp [hk]
/-- d[k], x = e, f -/
theorem ps_dparD {xk : Fp.Env → R D} {k v u : Expr} {xv xu : Fp.Env → R D} {pn p2 pz pt pt2 : Pos} {kt k2 : Nat} (hc : X.calm = true) (nd : X.N.Nodup) (ep : EaOk X ea) (hr : Rm X) (hij : i ≠ j) (hN : X.N[i]? = some y) (hv : Vis X.env.scope y) (hd : okNm y = true)
    (hj : X.N[j]? = some z) (hlz : Loc X.env.scope z) (fz : X.fn z = true ∨ X.env.scope.names.lookup z = some .local) (hsk : shp k = true) (hsv : shp v = true) (hsu : shp u = true) (hk : PE X k (rdV X.K F0 H0 ea W false xk)) (hx : PE X v (rdV X.K F0 H0 ea W false xv)) (hu : PE X u (rdV X.K F0 H0 ea W false xu)) :
    PS X (.Assign [.Tuple [.Subscript (.Name y pn) k p2, .Name z pz] kt pt] (.Tuple [v, u] k2 pt2) pos) (rdS X.K F0 H0 ea W fun env => ofR env (xv env) fun d => ofR env (xu env) fun g => withD env i fun t ps => ofR env (xk env) fun kd => (match dPut t ps kd d with
      | .ok ps' => ofE (setS j (.val g) (env.set i (.own (dV t ps'))))
      | _ => .no)) :=
  PSi (ps_asg (pe_tup (pa_cons hx (pa_cons hu pa_nil (shp_star hsu _)) (shp_star hsv _))) (pg_tup (n := 2) hc (pgs_cons (pg_sub (pe_var hN hv (nm_ok hd).1 (nm_ok hd).2.1) hk (set_dic ep hr) (asg_sub hsk)) (pgs_cons (pg_name nd hj hlz fz) pgs_nil rfl) rfl) rfl rfl) (by unfold swapsWithSole; rfl) (swapS hsv hsu)) fun D σ H ⟨F, env, r, q⟩ => ⟨F, env, r, AnsS.ofR (x := xv env) (D := D) r q fun d F1 H1 _ e1 q1 v1 r1 =>
    ⟨F1, env, r.grow e1, AnsS.ofR (x := xu env) (D := D) (r.grow e1) q1 fun g F2 H2 _ e2 q2 v2 r2 => by
      refine ⟨by show 2 ≤ sizeLine; rw [sz_eq]; omega, fun p hp => ⟨p, _, rfl, SqT.of upd_same, rfl, v1, _, rfl, ?_⟩⟩
      have e3 := (Ext.refl e2.sub).loose (o := .tup [v1, v2]) hp
      have rr := ((r.grow e1).grow e2).grow e3
      obtain ⟨t, ps, hi, q2⟩ := withD_ok q2
      obtain ⟨aa, o, h1, h2, h3, h4, h5⟩ := rr.dic hi
      refine ⟨.ref aa, h1, F2, env, rr, AnsS.ofR (x := xk env) (D := D) rr q2 fun kd F4 H4 _ e4 q4 v4 r4 => ?_⟩
      have r1 : Rp X.K F1 v1 d := r1
      have r2 : Rp X.K F2 v2 g := r2
      have r4 : Rp X.K F4 v4 kd := r4
      split at q4
      · rename_i ps' hp'
        obtain ⟨ok, hz, rfl⟩ := put_ok hp'
        refine ⟨F4, aa, o, t, ps, kd, d, rfl, e4.sub, e4.hh _ _ h4, h5.mono e4.ff, ok, hz, r4, r1.mono (e2.ff.trans e4.ff), fun o'' hd' => ⟨v2, _, rfl, rfl, ?_⟩⟩
        have rm := (rr.grow e4).mutO hi h1 hd'.own
        unfold setS at q4
        split at q4
        · exact q4 _ F4 _ (Same.refl _) (rm.setN (s := .val g) (x := some v2) ⟨v2, rfl, r2.mono e4.ff⟩ fun _ z => nomatch z)
        · exact q4.elim
      · exact q4.elim⟩⟩
/-! ### l.extend(..) -/
def rExtX (K : PySem.W.Frag) : V → List V → Hp → VK → Prop := fun x xs H Q => ∃ p q vs ws, x = .ref p ∧ xs = [.ref q] ∧ H p = some (.lst vs) ∧ (LsX K H q ws ∨ TpX K H q ws) ∧ vs.length + ws.length ≤ sizeLine ∧ Q .non (upd H p (.lst (vs ++ ws)))
theorem mt_ext : MtR X "list.extend" (rExtX X.K) := by
  intro pins s σ H x xs v us Q I rx rxs ⟨p, q, vs, ws, ex, e2, hH, hw, hz, k⟩
  subst ex e2
  cases rx
  obtain ⟨u, rfl, ru⟩ := vals1 rxs
  cases ru
  obtain ⟨z, its, n, r, hl, e⟩ := I.lstM hH
  have hsz : its.toArray.size = vs.length := List.size_toArray.trans r.length.symm
  have fin : ∀ jts : List Value, Vals ws jts → EP X pins σ Q .none { s with heap := s.heap.update p (Obj.mapSeq fun x => x ++ jts.toArray) } := fun jts rj => by
    refine ⟨.non, _, I.lset (its' := its ++ jts) hH e (by simp) (r.append rj) ?_, rfl, k⟩
    rw [List.length_append]
    exact hz
  have door : ∀ jts : List Value, Vals ws jts → its.toArray.size + jts.toArray.size ≤ sizeLine := fun jts rj => by
    rw [hsz, List.size_toArray, ← rj.length]
    exact hz
  have hT : s.TypeIs (.ref p) "list" := ⟨_, e, rfl⟩
  rcases hw with hw | hw
  · obtain ⟨jts, rj, ⟨o, m, h1, h2, h3, h4⟩, _⟩ := LsX.plain I hw
    have hobj : ∃ m, s.heap.get? q = some { cls := .type "list", data := .seq jts.toArray m } := by
      rcases hw with hw | ⟨jts', m', h5, h6, h7⟩
      · obtain ⟨z2, its2, n2, r2, e2⟩ := hw.ok I.hok
        rw [h1] at e2
        cases e2
        cases h4
        exact ⟨_, h1⟩
      · have e2 := I.kIn q _ h5
        rw [h1] at e2
        cases e2
        cases h4
        exact ⟨_, h1⟩
    obtain ⟨m, hobj⟩ := hobj
    have hd := door jts rj
    exact call_meets F.slot_list_extend hT F.entry_list_extend (F.args_list_extend_2 _ _) (AutoSeq1.list_extend_list_list_0 p its.toArray n q jts.toArray m (PyProof.Rows.extend_door hd) (by omega) (by omega)) ⟨e, hobj, fin jts rj⟩
  · obtain ⟨jts, m, rj, hobj, _⟩ := TpX.obj I hw
    have hd := door jts rj
    exact call_meets F.slot_list_extend hT F.entry_list_extend (F.args_list_extend_2 _ _) (AutoSeq1.list_extend_list_tuple_0 p its.toArray n q jts.toArray m (PyProof.Rows.extend_door hd) (by omega) (by omega)) ⟨e, hobj, fin jts rj⟩
theorem ps_extD (hN : X.N[i]? = some y) (hv : Vis X.env.scope y) (hd : okNm y = true) {apos : Pos} {pn : Pos} (hl : (apos.endLine == pos.line) = true) (hs : shp a = true) (ha : PE X a (rdV X.K F0 H0 ea W false xa)) :
    PS X (.Expr (.Call (.Attribute (.Name y pn) "extend" apos) [a] [] pos) py) (rdS X.K F0 H0 ea W fun env => withO env i fun xs => ofR env (xa env) fun d => ofE ((sq d).bind fun ds => if xs.length + ds.length ≤ 16777216 then setS i (.own (.list (xs ++ ds))) env else .no)) := by
  have hfew : ((backTo pos (starEach (a :: []) X.env)).all (fun x => !x.1) && (backToKw pos (keywordEach [] X.env)).all (fun x => x.1.isSome)
      && decide ((a :: ([] : List Expr)).length + ([] : List Keyword).length + (if ([] : List Keyword).isEmpty then 0 else 1) < 30)) = true := by
    rw [shp_star hs]
    rfl
  refine PSi (ps_expr (pe_bm PySem.F.plainAttrs_list PySem.F.slot_list_extend PySem.F.type_list_extend mt_ext (pe_var hN hv (nm_ok hd).1 (nm_ok hd).2.1) (pa_cons ha pa_nil (shp_star hs _)) rfl hfew hl (shp_star hs _) rfl) rfl) fun D σ H ⟨F, env, r, q⟩ => ?_
  obtain ⟨xs, hi, q⟩ := withO_ok q
  obtain ⟨p, vs, ds, h1, h2, h3, h4, h5, h6⟩ := r.own hi
  cases h2
  refine ⟨.ref p, h1, .inl ⟨rfl, vs, SqL.of h5⟩, F, env, r, AnsS.ofR (x := xa env) (D := D) r q fun d F' H' _ e k v hv => ?_⟩
  have hv : Rp X.K F' v d := hv
  have hil : i < env.length := (List.getElem?_eq_some_iff.mp hi).1
  cases hsq : sq d with
  | no => rw [hsq] at k; exact k.elim
  | ex c => exact absurd hsq (noX_sq d c)
  | ok ws =>
    rw [hsq, R.bind_ok] at k
    split at k
    · rename_i hz
      unfold setS at k
      rw [if_pos hil] at k
      have fin : ∀ (q : Addr) (us : List V), v = .ref q → (LsX X.K H' q us ∨ TpX X.K H' q us) → RpAll X.K F' us ws → rExtX X.K (.ref p) [v] H' fun v H' => ∃ (_ : True), D.nx σ H' := fun q us ev hw ru =>
        ⟨p, q, vs, us, rfl, by rw [ev], e.hh _ _ h5, hw, by rw [sz_eq, h6.length, ru.length]; exact hz, trivial, k σ F' _ (Same.refl _) ((r.grow e).mut hi h1 ((h6.mono e.ff).append ru))⟩
      have imp : ∀ {x xs H Q Q'}, rExtX X.K x xs H Q → (∀ v H', Q v H' → Q' v H') → rExtX X.K x xs H Q' := fun {x xs H Q Q'} ⟨p, q, a, b, h1, h2, h3, h4, h5, h6⟩ k => ⟨p, q, a, b, h1, h2, h3, h4, h5, k _ _ h6⟩
      cases d with
      | list ys =>
        cases hsq
        cases hv with
        | lst hx ht => exact imp (fin _ _ rfl (.inl (LsX.mono e.sub hx)) ht) fun _ _ ⟨_, h⟩ => h
      | tuple ys =>
        cases hsq
        cases hv with
        | tup hx ht => exact imp (fin _ _ rfl (.inr (TpX.mono e.sub hx)) ht) fun _ _ ⟨_, h⟩ => h
      | _ => cases hsq
    · exact k.elim
end
end Fp

set_option Elab.async false
set_option linter.all false
set_option maxRecDepth 100000
set_option maxHeartbeats 2000000
/-! Several names at once; an item of a list; refusals. -/
namespace Fp
open PySem PySem.Spec PyProof.Rows L2
/-- a value for a slot: new where it is owned -/
def rdQ (K : PySem.W.Frag) (F0 H0 : Hp) (ea : Ea) (W : WD) (o : Bool) (x : Fp.Env → R D) : TE := fun σ H Q => ∃ F env, Rel K F0 H0 ea env σ F H ∧
  AnsW F H ((x env).bind fun d => slotOf o d) (fun s F' H' => ∀ v, SlotOk K H0 F' H' ea s (some v) → ((∃ d, s = .own d) → ∃ p, v = .ref p ∧ H p = none) → Q v H') fun c H' => W c σ H'
section
variable {X : Cx} {F0 H0 : Hp} {ea : Ea} {W : WD} {a b c : Expr} {xa xb xc : Fp.Env → R D} {pos : Pos} {i j l : Nat} {y z u : Str}
theorem slot_ok {K : PySem.W.Frag} {F H : Hp} {v : V} {d : D} {s : Slot} (h : SlotOk K H0 F H ea s (some v)) : True := trivial
theorem pe_qV (ha : PE X a (rdV X.K F0 H0 ea W false xa)) : PE X a (rdQ X.K F0 H0 ea W false xa) :=
  PEi ha fun σ H Q ⟨F, env, r, q⟩ => ⟨F, env, r, q.bind fun d F' H' _ e k v hv => by
    have hv : Rp X.K F' v d := hv
    have k : AnsW F' H' (R.ok (Slot.val d)) _ _ := k
    exact AnsW.here e.sub k v ⟨v, rfl, hv⟩ fun ⟨_, z⟩ => nomatch z⟩
theorem pe_qG (ha : PE X a (rdG X.K F0 H0 ea W xa)) : PE X a (rdQ X.K F0 H0 ea W true xa) :=
  PEi ha fun σ H Q ⟨F, env, r, q⟩ => ⟨F, env, r, q.bind fun d F' H' _ e k => by
    unfold slotOf at k
    rw [if_pos rfl] at k
    refine ⟨fun v nl hv => ?_, fun ds p vs ed hp ho hf hr => ?_⟩
    · cases d with
      | list xs => exact absurd rfl (nl xs)
      | _ => exact k.elim
    · subst ed
      exact AnsW.here e.sub k (.ref p) ⟨p, _, rfl, ⟨vs, rfl, hr⟩, hf, r.ext.hh.free hp, ho⟩ fun _ => ⟨p, rfl, hp⟩⟩
theorem ne_new {K : PySem.W.Frag} {F H : Hp} {v : V} {s : Slot} {p : Addr} (h : SlotOk K H0 F H ea s (some v)) (hs : ∃ d, s = .own d) (hp : H p = none) : (.ref p : V) ≠ v := by
  obtain ⟨d, rfl⟩ := hs
  obtain ⟨a, o, h1, h2, h3, h4, h5⟩ := h
  cases h1
  intro e
  cases e
  rw [hp] at h5
  cases h5
section
variable {env : PySem.Env} {px py pz pt pt2 : Pos} {kt k2 : Nat}
theorem star_not : ∀ l : List Expr, (∀ x ∈ l, shp x = true) → (l.any fun | .Starred .. => true | _ => false) = false
  | [], _ => rfl
  | x :: l, h => by
    have h1 := h x List.mem_cons_self
    have ih := star_not l fun y hy => h y (List.mem_cons_of_mem _ hy)
    rw [List.any_cons, ih, Bool.or_false]
    cases x <;> first
      | rfl
      | (cases h1; done)
theorem swap2 (hk : env.scope.kind = .function) (hx : env.scope.names.lookup y = some .local) (hy : env.scope.names.lookup z = some .local) (hne : y ≠ z) (hl : (py.line == px.line) = true) (ha : shp a = true) (hb : shp b = true)
    (hf : ([a, b].all (foldedForSure 8)) = false) (hc : ([a, b].all (constantsAlone 8)) = false) : swappedStores [.Tuple [.Name y px, .Name z py] kt pt] (.Tuple [a, b] k2 pt2) env = pure (some [y, z]) := by
  have ky : env.kindOf y = some .local := hx
  have kz : env.kindOf z = some .local := hy
  have hb' : env.blockKind = .function := by unfold Env.blockKind; rw [hk]; rfl
  have s1 := star_not [a, b] fun x hx => by
    rcases List.mem_cons.mp hx with rfl | hx
    · exact ha
    · rcases List.mem_singleton.mp hx with rfl; exact hb
  have e1 : (z == y) = false := by simpa using fun e : z = y => hne e.symm
  have e2 : (y == z) = false := by simpa using hne
  have hl2 : (px.line == px.line) = true := by simp
  have hl3 : py.line = px.line := by simpa using hl
  have hne2 : ¬ z = y := fun e => hne e.symm
  unfold swappedStores
  simp only [List.length_cons, List.length_nil, hb', List.head?_cons, Option.map_some, Option.getD_some, Expr.pos, List.filterMap_cons, List.filterMap_nil, ky, kz, hl, hl2, Bool.and_self, beq_self_eq_true, if_true, hf, hc]
  have hd : [y, z].eraseDups = [y, z] := by simp [List.eraseDups_cons, hne2]
  rw [hd]
  refine Eq.trans (if_neg (by decide)) (Eq.trans (if_neg fun e => Bool.noConfusion (s1.symm.trans e)) ?_)
  rfl
theorem swap3 {pw : Pos} (hk : env.scope.kind = .function) (hx : env.scope.names.lookup y = some .local) (hy : env.scope.names.lookup z = some .local) (hu : env.scope.names.lookup u = some .local) (hne : y ≠ z) (hne2 : y ≠ u) (hne3 : z ≠ u) (hl : (py.line == px.line) = true) (hl4 : (pw.line == px.line) = true)
    (ha : shp a = true) (hb : shp b = true) (hc' : shp c = true)
    (hf : ([a, b, c].all (foldedForSure 8)) = false) (hc : ([a, b, c].all (constantsAlone 8)) = false) : swappedStores [.Tuple [.Name y px, .Name z py, .Name u pw] kt pt] (.Tuple [a, b, c] k2 pt2) env = pure (some [y, z, u]) := by
  have ky : env.kindOf y = some .local := hx
  have kz : env.kindOf z = some .local := hy
  have ku : env.kindOf u = some .local := hu
  have hb' : env.blockKind = .function := by unfold Env.blockKind; rw [hk]; rfl
  have s1 := star_not [a, b, c] fun x hx => by
    rcases List.mem_cons.mp hx with rfl | hx
    · exact ha
    · rcases List.mem_cons.mp hx with rfl | hx
      · exact hb
      · rcases List.mem_singleton.mp hx with rfl; exact hc'
  have hl2 : (px.line == px.line) = true := by simp
  have n1 : ¬ z = y := fun e => hne e.symm
  have n2 : ¬ u = y := fun e => hne2 e.symm
  have n3 : ¬ u = z := fun e => hne3 e.symm
  unfold swappedStores
  simp only [List.length_cons, List.length_nil, hb', List.head?_cons, Option.map_some, Option.getD_some, Expr.pos, List.filterMap_cons, List.filterMap_nil, ky, kz, ku, hl, hl2, hl4, Bool.and_self, beq_self_eq_true, if_true, hf, hc]
  have hd : [y, z, u].eraseDups = [y, z, u] := by simp [List.eraseDups_cons, n1, n2, n3]
  rw [hd]
  refine Eq.trans (if_neg (by decide)) (Eq.trans (if_neg fun e => Bool.noConfusion (s1.symm.trans e)) ?_)
  rfl
end
theorem setAll2 {K : PySem.W.Frag} {env : Fp.Env} {F : Hp} {D : Ends} {s t : Slot} (h : AnsS K F0 H0 ea W F (ofE (setAll [(i, s), (j, t)] env)) D) : AnsS K F0 H0 ea W F (.nx ((env.set i s).set j t)) D := by
  by_cases h1 : i < env.length
  · rw [setAll, setS, if_pos h1, R.bind_ok] at h
    by_cases h2 : j < (env.set i s).length
    · rw [setAll, setS, if_pos h2, R.bind_ok, setAll] at h
      exact h
    · rw [setAll, setS, if_neg h2] at h
      exact h.elim
  · rw [setAll, setS, if_neg h1] at h
    exact h.elim
theorem setAll3 {K : PySem.W.Frag} {env : Fp.Env} {F : Hp} {D : Ends} {s t v : Slot} (h : AnsS K F0 H0 ea W F (ofE (setAll [(i, s), (j, t), (l, v)] env)) D) : AnsS K F0 H0 ea W F (.nx (((env.set i s).set j t).set l v)) D := by
  by_cases h1 : i < env.length
  · rw [setAll, setS, if_pos h1, R.bind_ok] at h
    exact setAll2 h
  · rw [setAll, setS, if_neg h1] at h
    exact h.elim
/-- a, b = x, y -/
theorem ps_par2D {o1 o2 : Bool} {px py pt pt2 : Pos} {kt k2 : Nat} (hc : X.calm = true) (nd : X.N.Nodup) (hi : X.N[i]? = some y) (hj : X.N[j]? = some z) (hij : i ≠ j) (hx : X.env.scope.names.lookup y = some .local) (hy : X.env.scope.names.lookup z = some .local)
    (hw : swappedStores [.Tuple [.Name y px, .Name z py] kt pt] (.Tuple [a, b] k2 pt2) X.env = pure (some [y, z])) (hsa : shp a = true) (hsb : shp b = true)
    (ha : PE X a (rdQ X.K F0 H0 ea W o1 xa)) (hb : PE X b (rdQ X.K F0 H0 ea W o2 xb)) :
    PS X (.Assign [.Tuple [.Name y px, .Name z py] kt pt] (.Tuple [a, b] k2 pt2) pos) (rdS X.K F0 H0 ea W fun env => match ((xa env).bind fun d => (slotOf o1 d).bind fun s => ((xb env).bind fun d => (slotOf o2 d).bind fun t => R.ok [(j, t)]).bind fun l => R.ok ((i, s) :: l)) with
      | .ok l => ofE (setAll l env)
      | .ex c => .ex c env
      | .no => .no) :=
  PSi (ps_par hc nd hi hj hij hx hy (pa_cons ha (pa_cons hb pa_nil (shp_star hsb _)) (shp_star hsa _)) hw) fun D σ H ⟨F, env, r, q⟩ => by
    refine ⟨F, env, r, ?_⟩
    revert q
    dsimp only
    cases xa env with
    | no => exact fun q => q
    | ex c => exact fun q F' H' e => q σ F' H' e.ff (r.grow e)
    | ok d1 =>
      rw [R.bind_ok, R.bind_ok]
      cases slotOf o1 d1 with
      | no => exact fun q => q
      | ex c => exact fun q F' H' e => q σ F' H' e.ff (r.grow e)
      | ok s1 =>
        rw [R.bind_ok]
        intro q F1 H1 e1 v1 ok1 fr1
        refine ⟨F1, env, r.grow e1, ?_⟩
        revert q
        dsimp only
        cases xb env with
        | no => exact fun q => q
        | ex c => exact fun q F' H' e => q σ F' H' (e1.trans e).ff (r.grow (e1.trans e))
        | ok d2 =>
          rw [R.bind_ok, R.bind_ok]
          cases slotOf o2 d2 with
          | no => exact fun q => q
          | ex c => exact fun q F' H' e => q σ F' H' (e1.trans e).ff (r.grow (e1.trans e))
          | ok s2 =>
            rw [R.bind_ok, R.bind_ok]
            intro q F2 H2 e2 v2 ok2 fr2
            refine ⟨v1, v2, rfl, ?_⟩
            have q := setAll2 q
            have r2 := r.grow (e1.trans e2)
            refine q _ F2 H2 (e1.trans e2).ff ((r2.setS (ok1.grow e2) fun hs => ?_).setS ok2 fun hs => ?_)
            · obtain ⟨p, rfl, hp⟩ := fr1 hs
              exact r.notOwn hp
            · obtain ⟨p, rfl, hp⟩ := fr2 hs
              exact NotOwn.set ((r.grow e1).notOwn hp) fun hs1 => ne_new ok1 hs1 hp
theorem sole_tup {t : Expr} {xs : List Expr} {k : Nat} {p : Pos} {l : Nat} {env : PySem.Env} : swapsWithSole [t] (.Tuple xs k p) l env = pure false := by
  unfold swapsWithSole
  rfl
theorem swapN2 {env : PySem.Env} {px py pt pt2 : Pos} {kt k2 : Nat} (h : env.scope.names.lookup y ≠ some .local ∨ env.scope.names.lookup z ≠ some .local) (ha : shp a = true) (hb : shp b = true) :
    swappedStores [.Tuple [.Name y px, .Name z py] kt pt] (.Tuple [a, b] k2 pt2) env = pure none := by
  have s1 := star_not [a, b] fun x hx => by
    rcases List.mem_cons.mp hx with rfl | hx
    · exact ha
    · rcases List.mem_singleton.mp hx with rfl; exact hb
  have key : ∀ l : Nat, (([.Name y px, .Name z py] : List Expr).filterMap fun
      | .Name id pos => if env.kindOf id == some .local && pos.line == l then some id else none
      | _ => none).length ≠ 2 := by
    intro l
    rcases h with h | h
    · have h' : (env.kindOf y == some .local) = false := by
        cases e : (env.kindOf y == some NameKind.local) with
        | false => rfl
        | true => exact absurd (eq_of_beq e) h
      rw [List.filterMap_cons]
      simp only [h', Bool.false_and, Bool.false_eq_true, if_false]
      rw [List.filterMap_cons]
      split <;> simp
    · have h' : (env.kindOf z == some .local) = false := by
        cases e : (env.kindOf z == some NameKind.local) with
        | false => rfl
        | true => exact absurd (eq_of_beq e) h
      rw [List.filterMap_cons, List.filterMap_cons]
      simp only [h', Bool.false_and, Bool.false_eq_true, if_false]
      split <;> simp
  unfold swappedStores
  dsimp only
  by_cases hk : env.blockKind = .function
  · refine Eq.trans (if_neg (by simp [hk])) (Eq.trans (if_neg fun e => Bool.noConfusion (s1.symm.trans e)) ?_)
    refine if_pos ?_
    rw [Bool.or_eq_true]
    exact .inl (bne_iff_ne.mpr (key _))
  · refine if_pos ?_
    simp [hk]
/-- a, b = x, y by a pair that is made and taken apart -/
theorem ps_par2T {o1 o2 : Bool} {px py pt pt2 : Pos} {kt k2 : Nat} (hc : X.calm = true) (nd : X.N.Nodup) (hi : X.N[i]? = some y) (hj : X.N[j]? = some z) (hij : i ≠ j) (hx : Loc X.env.scope y) (hy : Loc X.env.scope z) (fx : X.fn y = true ∨ X.env.scope.names.lookup y = some .local) (fy : X.fn z = true ∨ X.env.scope.names.lookup z = some .local)
    (hw : swappedStores [.Tuple [.Name y px, .Name z py] kt pt] (.Tuple [a, b] k2 pt2) X.env = pure none) (hsa : shp a = true) (hsb : shp b = true)
    (ha : PE X a (rdQ X.K F0 H0 ea W o1 xa)) (hb : PE X b (rdQ X.K F0 H0 ea W o2 xb)) :
    PS X (.Assign [.Tuple [.Name y px, .Name z py] kt pt] (.Tuple [a, b] k2 pt2) pos) (rdS X.K F0 H0 ea W fun env => match ((xa env).bind fun d => (slotOf o1 d).bind fun s => ((xb env).bind fun d => (slotOf o2 d).bind fun t => R.ok [(j, t)]).bind fun l => R.ok ((i, s) :: l)) with
      | .ok l => ofE (setAll l env)
      | .ex c => .ex c env
      | .no => .no) :=
  PSi (ps_asg (pe_tup (pa_cons ha (pa_cons hb pa_nil (shp_star hsb _)) (shp_star hsa _))) (pg_tup (n := 2) hc (pgs_cons (pg_name nd hi hx fx) (pgs_cons (pg_name nd hj hy fy) pgs_nil rfl) rfl) rfl rfl) (sole_tup) hw) fun D σ H ⟨F, env, r, q⟩ => by
    refine ⟨F, env, r, ?_⟩
    revert q
    dsimp only
    cases xa env with
    | no => exact fun q => q
    | ex c => exact fun q F' H' e => q σ F' H' e.ff (r.grow e)
    | ok d1 =>
      rw [R.bind_ok, R.bind_ok]
      cases slotOf o1 d1 with
      | no => exact fun q => q
      | ex c => exact fun q F' H' e => q σ F' H' e.ff (r.grow e)
      | ok s1 =>
        rw [R.bind_ok]
        intro q F1 H1 e1 v1 ok1 fr1
        refine ⟨F1, env, r.grow e1, ?_⟩
        revert q
        dsimp only
        cases xb env with
        | no => exact fun q => q
        | ex c => exact fun q F' H' e => q σ F' H' (e1.trans e).ff (r.grow (e1.trans e))
        | ok d2 =>
          rw [R.bind_ok, R.bind_ok]
          cases slotOf o2 d2 with
          | no => exact fun q => q
          | ex c => exact fun q F' H' e => q σ F' H' (e1.trans e).ff (r.grow (e1.trans e))
          | ok s2 =>
            rw [R.bind_ok, R.bind_ok]
            intro q F2 H2 e2 v2 ok2 fr2
            refine ⟨by show 2 ≤ sizeLine; rw [sz_eq]; omega, fun p hp => ⟨p, _, rfl, SqT.of upd_same, rfl, v1, _, rfl, v2, _, rfl, rfl, ?_⟩⟩
            have q := setAll2 q
            have e3 := (Ext.refl e2.sub).loose (o := .tup [v1, v2]) hp
            have r2 := r.grow ((e1.trans e2).trans e3)
            refine q _ F2 _ (e1.trans e2).ff ((r2.setS ((ok1.grow e2).grow e3) fun hs => ?_).setS (ok2.grow e3) fun hs => ?_)
            · obtain ⟨p, rfl, hp⟩ := fr1 hs
              exact r.notOwn hp
            · obtain ⟨p, rfl, hp⟩ := fr2 hs
              exact NotOwn.set ((r.grow e1).notOwn hp) fun hs1 => ne_new ok1 hs1 hp
/-- a, b, c = x, y, z -/
theorem ps_par3D {o1 o2 o3 : Bool} {px py pw pt pt2 : Pos} {kt k2 : Nat} (hc : X.calm = true) (nd : X.N.Nodup) (hi : X.N[i]? = some y) (hj : X.N[j]? = some z) (hl : X.N[l]? = some u) (hij : i ≠ j) (hil : i ≠ l) (hjl : j ≠ l)
    (hx : X.env.scope.names.lookup y = some .local) (hy : X.env.scope.names.lookup z = some .local) (hu : X.env.scope.names.lookup u = some .local)
    (hw : swappedStores [.Tuple [.Name y px, .Name z py, .Name u pw] kt pt] (.Tuple [a, b, c] k2 pt2) X.env = pure (some [y, z, u])) (hsa : shp a = true) (hsb : shp b = true) (hsc : shp c = true)
    (ha : PE X a (rdQ X.K F0 H0 ea W o1 xa)) (hb : PE X b (rdQ X.K F0 H0 ea W o2 xb)) (hc' : PE X c (rdQ X.K F0 H0 ea W o3 xc)) :
    PS X (.Assign [.Tuple [.Name y px, .Name z py, .Name u pw] kt pt] (.Tuple [a, b, c] k2 pt2) pos) (rdS X.K F0 H0 ea W fun env => match ((xa env).bind fun d => (slotOf o1 d).bind fun s => ((xb env).bind fun d => (slotOf o2 d).bind fun t =>
        ((xc env).bind fun d => (slotOf o3 d).bind fun v => R.ok [(l, v)]).bind fun l => R.ok ((j, t) :: l)).bind fun l => R.ok ((i, s) :: l)) with
      | .ok l => ofE (setAll l env)
      | .ex c => .ex c env
      | .no => .no) :=
  PSi (ps_par3 hc nd hi hj hl hij hil hjl hx hy hu (pa_cons ha (pa_cons hb (pa_cons hc' pa_nil (shp_star hsc _)) (shp_star hsb _)) (shp_star hsa _)) hw) fun D σ H ⟨F, env, r, q⟩ => by
    refine ⟨F, env, r, ?_⟩
    revert q
    dsimp only
    cases xa env with
    | no => exact fun q => q
    | ex c => exact fun q F' H' e => q σ F' H' e.ff (r.grow e)
    | ok d1 =>
      rw [R.bind_ok, R.bind_ok]
      cases slotOf o1 d1 with
      | no => exact fun q => q
      | ex c => exact fun q F' H' e => q σ F' H' e.ff (r.grow e)
      | ok s1 =>
        rw [R.bind_ok]
        intro q F1 H1 e1 v1 ok1 fr1
        refine ⟨F1, env, r.grow e1, ?_⟩
        revert q
        dsimp only
        cases xb env with
        | no => exact fun q => q
        | ex c => exact fun q F' H' e => q σ F' H' (e1.trans e).ff (r.grow (e1.trans e))
        | ok d2 =>
          rw [R.bind_ok, R.bind_ok]
          cases slotOf o2 d2 with
          | no => exact fun q => q
          | ex c => exact fun q F' H' e => q σ F' H' (e1.trans e).ff (r.grow (e1.trans e))
          | ok s2 =>
            rw [R.bind_ok]
            intro q F2 H2 e2 v2 ok2 fr2
            refine ⟨F2, env, r.grow (e1.trans e2), ?_⟩
            revert q
            dsimp only
            cases xc env with
            | no => exact fun q => q
            | ex c => exact fun q F' H' e => q σ F' H' ((e1.trans e2).trans e).ff (r.grow ((e1.trans e2).trans e))
            | ok d3 =>
              rw [R.bind_ok, R.bind_ok]
              cases slotOf o3 d3 with
              | no => exact fun q => q
              | ex c => exact fun q F' H' e => q σ F' H' ((e1.trans e2).trans e).ff (r.grow ((e1.trans e2).trans e))
              | ok s3 =>
                rw [R.bind_ok, R.bind_ok, R.bind_ok]
                intro q F3 H3 e3 v3 ok3 fr3
                refine ⟨v1, v2, v3, rfl, ?_⟩
                have q := setAll3 q
                have r3 := r.grow ((e1.trans e2).trans e3)
                refine q _ F3 H3 ((e1.trans e2).trans e3).ff (((r3.setS ((ok1.grow e2).grow e3) fun hs => ?_).setS (ok2.grow e3) fun hs => ?_).setS ok3 fun hs => ?_)
                · obtain ⟨p, rfl, hp⟩ := fr1 hs
                  exact r.notOwn hp
                · obtain ⟨p, rfl, hp⟩ := fr2 hs
                  exact NotOwn.set ((r.grow e1).notOwn hp) fun hs1 => ne_new ok1 hs1 hp
                · obtain ⟨p, rfl, hp⟩ := fr3 hs
                  exact NotOwn.set (NotOwn.set ((r.grow (e1.trans e2)).notOwn hp) fun hs1 => ne_new (ok1.grow e2) hs1 hp) fun hs2 => ne_new ok2 hs2 hp
/-! ### xs[i] = v -/
theorem assign_sub {o b : Expr} {pt : Pos} {env : PySem.Env} (hb : shp b = true) : ∀ v, assign (.Subscript o b pt) env v = (do
      let ov ← holding [v] (eval o env)
      let iv ← holding [v, ov] (eval b env)
      standAt pt
      holding [v, ov, iv] (setItem ov iv v)
      release [v, ov, iv] []) := by
  intro v
  cases b <;> first
    | rfl
    | (cases hb; done)
theorem sole_none {t : Expr} {l : Nat} {env : PySem.Env} (hs : shp a = true) (hn : notLC a = true) : swapsWithSole [t] a l env = pure false := by
  have := sw_none (t := some t) (l := l) (env := env) hs hn
  unfold swapsWithSole
  exact this
theorem ps_stiD {pt pn : Pos} (hsb : shp b = true) (hN : X.N[i]? = some y) (hv : Vis X.env.scope y) (hd : okNm y = true) (hs : shp a = true) (hn : notLC a = true) (ha : PE X a (rdV X.K F0 H0 ea W false xa)) (hb : PE X b (rdV X.K F0 H0 ea W false xb)) :
    PS X (.Assign [.Subscript (.Name y pn) b pt] a pos) (rdS X.K F0 H0 ea W fun env => ofR env (xa env) fun d => withO env i fun xs => ofR env (xb env) fun k => match k with
    | .int n => (match ixN xs.length n with
      | some j => .nx (env.set i (.own (.list (xs.set j d))))
      | none => .no)
    | _ => .no) :=
  PSi (ps_asg ha (pg_sub (pe_var hN hv (nm_ok hd).1 (nm_ok hd).2.1) hb set_list (assign_sub hsb)) (sole_none hs hn)) fun D σ H ⟨F, env, r, q⟩ => ⟨F, env, r, AnsS.ofR (x := xa env) (D := D) r q fun d F1 H1 _ e1 k v hv => by
    have hv : Rp X.K F1 v d := hv
    obtain ⟨xs, hi, k⟩ := withO_ok k
    have r1 := r.grow e1
    obtain ⟨p, vs, ds, h1, h2, h3, h4, h5, h6⟩ := r1.own hi
    cases h2
    refine ⟨.ref p, h1, F1, env, r1, AnsS.ofR (x := xb env) (D := D) r1 k fun n F2 H2 _ e2 k w hw => ?_⟩
    have hw : Rp X.K F2 w n := hw
    cases n with
    | int n =>
      cases hw
      dsimp only at k
      split at k
      · rename_i m hm
        refine ⟨p, vs, n, m, rfl, rfl, e2.hh _ _ h5, by rw [h6.length]; exact hm, ?_⟩
        exact k σ F2 _ (Same.refl _) ((r1.grow e2).mut hi h1 ((h6.mono e2.ff).set (hv.mono e2.ff) m))
      · exact k.elim
    | _ => exact k.elim⟩
end
end Fp

set_option Elab.async false
set_option linter.all false
set_option maxRecDepth 100000
set_option maxHeartbeats 4000000
/-! A statement's text means the statement. -/
namespace Fp
open PySem PySem.Spec PyProof.Rows L2
/-! ### the check of statements -/
def swapB (vs : List Expr) : Bool := !(vs.all (foldedForSure 8)) && !(vs.all (constantsAlone 8))
def lcNoOwn (y : Str) : Expr → Bool
  | .ListComp _ _ scope _ => !(scope.names.any fun (n, k) => n == y && (k == .local || k == .cell))
  | _ => false
def lcLine (p : Pos) : Expr → Bool
  | .ListComp _ _ _ pos => p.line == pos.line
  | _ => false
/-- name = value: plain, or a comprehension that takes the name along -/
def okSet (bk : Bk) (y : Str) (p : Pos) (x : Expr) : Bool := notLC x || !isLocal bk.sc y || (isLocal bk.sc y && lcNoOwn y x && lcLine p x)
def isNameE : Expr → Bool
  | .Name _ _ => true
  | _ => false
def notTup : Expr → Bool
  | .Tuple _ _ _ => false
  | .List _ _ => false
  | _ => true
/-! texts taken apart -/
def gAsg : Stmt → Option (Expr × Expr × Pos)
  | .Assign [t] x p => some (t, x, p)
  | _ => none
theorem gAsg_ok {st : Stmt} {t x : Expr} {p : Pos} (h : gAsg st = some (t, x, p)) : st = .Assign [t] x p := by
  unfold gAsg at h
  split at h
  · cases h; rfl
  · cases h
def gNm : Expr → Option (Str × Pos)
  | .Name y p => some (y, p)
  | _ => none
theorem gNm_ok {e : Expr} {y : Str} {p : Pos} (h : gNm e = some (y, p)) : e = .Name y p := by
  unfold gNm at h
  split at h
  · cases h; rfl
  · cases h
def gTp : Expr → Option (List Expr × Nat × Pos)
  | .Tuple ts k p => some (ts, k, p)
  | _ => none
theorem gTp_ok {e : Expr} {ts : List Expr} {k : Nat} {p : Pos} (h : gTp e = some (ts, k, p)) : e = .Tuple ts k p := by
  unfold gTp at h
  split at h
  · cases h; rfl
  · cases h
def g2 : List Expr → Option (Expr × Expr)
  | [a, b] => some (a, b)
  | _ => none
theorem g2_ok {l : List Expr} {a b : Expr} (h : g2 l = some (a, b)) : l = [a, b] := by
  unfold g2 at h
  split at h
  · cases h; rfl
  · cases h
def g3 : List Expr → Option (Expr × Expr × Expr)
  | [a, b, c] => some (a, b, c)
  | _ => none
theorem g3_ok {l : List Expr} {a b c : Expr} (h : g3 l = some (a, b, c)) : l = [a, b, c] := by
  unfold g3 at h
  split at h
  · cases h; rfl
  · cases h
/-- y.m(x) -/
structure MC where
  y : Str
  pn : Pos
  m : Str
  apos : Pos
  x : Expr
  cpos : Pos
def gMc : Expr → Option MC
  | .Call (.Attribute (.Name y pn) m apos) [x] [] cpos => some ⟨y, pn, m, apos, x, cpos⟩
  | _ => none
theorem gMc_ok {e : Expr} {c : MC} (h : gMc e = some c) : e = .Call (.Attribute (.Name c.y c.pn) c.m c.apos) [c.x] [] c.cpos := by
  unfold gMc at h
  split at h
  · cases h; rfl
  · cases h
def gSb : Expr → Option (Str × Pos × Expr × Pos)
  | .Subscript (.Name y pn) b p => some (y, pn, b, p)
  | _ => none
theorem gSb_ok {e b : Expr} {y : Str} {pn p : Pos} (h : gSb e = some (y, pn, b, p)) : e = .Subscript (.Name y pn) b p := by
  unfold gSb at h
  split at h
  · cases h; rfl
  · cases h
def gEx : Stmt → Option (Expr × Pos)
  | .Expr x p => some (x, p)
  | _ => none
theorem gEx_ok {st : Stmt} {x : Expr} {p : Pos} (h : gEx st = some (x, p)) : st = .Expr x p := by
  unfold gEx at h
  split at h
  · cases h; rfl
  · cases h
def gIf : Stmt → Option (Expr × List Stmt × List Stmt × Pos)
  | .If c a b p => some (c, a, b, p)
  | _ => none
theorem gIf_ok {st : Stmt} {c : Expr} {a b : List Stmt} {p : Pos} (h : gIf st = some (c, a, b, p)) : st = .If c a b p := by
  unfold gIf at h
  split at h
  · cases h; rfl
  · cases h
def gFr : Stmt → Option (Expr × Expr × List Stmt × Pos)
  | .For t x b [] p => some (t, x, b, p)
  | _ => none
theorem gFr_ok {st : Stmt} {t x : Expr} {b : List Stmt} {p : Pos} (h : gFr st = some (t, x, b, p)) : st = .For t x b [] p := by
  unfold gFr at h
  split at h
  · cases h; rfl
  · cases h
def gWh : Stmt → Option (Expr × List Stmt × Pos)
  | .While x b [] p => some (x, b, p)
  | _ => none
theorem gWh_ok {st : Stmt} {x : Expr} {b : List Stmt} {p : Pos} (h : gWh st = some (x, b, p)) : st = .While x b [] p := by
  unfold gWh at h
  split at h
  · cases h; rfl
  · cases h
def gRt : Stmt → Option (Expr × Pos)
  | .Return (some x) p => some (x, p)
  | _ => none
theorem gRt_ok {st : Stmt} {x : Expr} {p : Pos} (h : gRt st = some (x, p)) : st = .Return (some x) p := by
  unfold gRt at h
  split at h
  · cases h; rfl
  · cases h
structure RC where
  y : Str
  p : Pos
  m : Str
  k : Nat
  p2 : Pos
  pos : Pos
  pos' : Pos
def gRs : Stmt → Option RC
  | .Raise (some (.Call (.Name y p) [.Constant (.str m) k p2] [] pos)) none pos' => some ⟨y, p, m, k, p2, pos, pos'⟩
  | _ => none
theorem gRs_ok {st : Stmt} {c : RC} (h : gRs st = some c) : st = .Raise (some (.Call (.Name c.y c.p) [.Constant (.str c.m) c.k c.p2] [] c.pos)) none c.pos' := by
  unfold gRs at h
  split at h
  · cases h; rfl
  · cases h
def isPass : Stmt → Bool
  | .Pass _ => true
  | _ => false
structure TC where
  b : List Stmt
  x : Str
  np : Pos
  n : Option Str
  h0 : Stmt
  h : List Stmt
  pos' : Pos
  pos : Pos
def gTr : Stmt → Option TC
  | .Try b [.ExceptHandler (some (.Name x np)) n (h0 :: h) pos'] [] [] pos => some ⟨b, x, np, n, h0, h, pos', pos⟩
  | _ => none
theorem gTr_ok {st : Stmt} {c : TC} (h : gTr st = some c) : st = .Try c.b [.ExceptHandler (some (.Name c.x c.np)) c.n (c.h0 :: c.h) c.pos'] [] [] c.pos := by
  unfold gTr at h
  split at h
  · cases h; rfl
  · cases h
def chkAsn (G : Gx) (bk : Bk) (tg : Tg) (e : E) (t x : Expr) : Bool := match tg with
  | .nm i => (match gNm t with
    | some (y, p) => decide (G.N[i]? = some y) && bk.st y && chkE G bk false e x && okSet bk y p x
    | none => false)
  | tg => (match gTp t with
    | some (ts, k, p) => !bk.hot && chkTg G bk tg (.Tuple ts k p) && chkE G bk false e x && notLC x && notTup x
    | none => false)
def chkPar2 (G : Gx) (bk : Bk) (i : Nat) (o1 : Bool) (e1 : E) (j : Nat) (o2 : Bool) (e2 : E) (ty tz a b : Expr) : Bool := match gNm ty, gNm tz with
  | some (y, p), some (z, q) => !bk.hot && decide (G.N[i]? = some y) && decide (G.N[j]? = some z) && isLocal bk.sc y && isLocal bk.sc z && decide (i ≠ j) && decide (y ≠ z) && (q.line == p.line) && swapB [a, b] && (!o1 || mk e1) && (!o2 || mk e2) && chkE G bk false e1 a && chkE G bk false e2 b
  | _, _ => false
def chkPar2T (G : Gx) (bk : Bk) (i : Nat) (o1 : Bool) (e1 : E) (j : Nat) (o2 : Bool) (e2 : E) (ty tz a b : Expr) : Bool := match gNm ty, gNm tz with
  | some (y, _), some (z, _) => !bk.hot && decide (G.N[i]? = some y) && decide (G.N[j]? = some z) && bk.st y && bk.st z && decide (i ≠ j) && (!isLocal bk.sc y || !isLocal bk.sc z) && (!o1 || mk e1) && (!o2 || mk e2) && chkE G bk false e1 a && chkE G bk false e2 b
  | _, _ => false
def chkPar3 (G : Gx) (bk : Bk) (i : Nat) (o1 : Bool) (e1 : E) (j : Nat) (o2 : Bool) (e2 : E) (l : Nat) (o3 : Bool) (e3 : E) (ty tz tu a b c : Expr) : Bool := match gNm ty, gNm tz, gNm tu with
  | some (y, p), some (z, q), some (u, r) => !bk.hot && decide (G.N[i]? = some y) && decide (G.N[j]? = some z) && decide (G.N[l]? = some u) && isLocal bk.sc y && isLocal bk.sc z && isLocal bk.sc u && decide (i ≠ j) && decide (i ≠ l) && decide (j ≠ l) && decide (y ≠ z) && decide (y ≠ u) && decide (z ≠ u) &&
      (q.line == p.line) && (r.line == p.line) && swapB [a, b, c] && (!o1 || mk e1) && (!o2 || mk e2) && (!o3 || mk e3) && chkE G bk false e1 a && chkE G bk false e2 b && chkE G bk false e3 c
  | _, _, _ => false
def chkPs (G : Gx) (bk : Bk) (l : Ps) (ts xs : List Expr) : Bool := match l with
  | .cons i o1 e1 (.cons j o2 e2 .nil) => (match g2 ts, g2 xs with
    | some (ty, tz), some (a, b) => chkPar2 G bk i o1 e1 j o2 e2 ty tz a b || chkPar2T G bk i o1 e1 j o2 e2 ty tz a b
    | _, _ => false)
  | .cons i o1 e1 (.cons j o2 e2 (.cons l o3 e3 .nil)) => (match g3 ts, g3 xs with
    | some (ty, tz, tu), some (a, b, c) => chkPar3 G bk i o1 e1 j o2 e2 l o3 e3 ty tz tu a b c
    | _, _ => false)
  | _ => false
mutual
def chkS (G : Gx) (bk : Bk) : S → Stmt → Bool
  | .asn tg e, st => (match gAsg st with
    | some (t, x, _) => chkAsn G bk tg e t x
    | none => false)
  | .own i e, st => (match gAsg st with
    | some (t, x, _) => (match gNm t with
      | some (y, p) => decide (G.N[i]? = some y) && bk.st y && mk e && chkE G bk false e x && okSet bk y p x
      | none => false)
    | none => false)
  | .par l, st => (match gAsg st with
    | some (t, x, _) => (match gTp t, gTp x with
      | some (ts, _, _), some (xs, _, _) => chkPs G bk l ts xs
      | _, _ => false)
    | none => false)
  | .sti i ix e, st => (match gAsg st with
    | some (t, x, _) => (match gSb t with
      | some (y, _, b, _) => nameAt G bk i y && chkE G bk false ix b && chkE G bk false e x && notLC x
      | none => false)
    | none => false)
  | .app i e, st => (match gEx st with
    | some (x, _) => (match gMc x with
      | some c => nameAt G bk i c.y && decide (c.m = ("append" : Str)) && (c.apos.endLine == c.cpos.line) && chkE G bk false e c.x
      | none => false)
    | none => false)
  | .appop i j e, st => (match gEx st with
    | some (x, _) => (match gMc x with
      | some c => (match gMc c.x with
        | some d => nameAt G bk i c.y && nameAt G bk j d.y && decide (i ≠ j) && decide (c.m = ("append" : Str)) && decide (d.m = ("pop" : Str)) && (c.apos.endLine == c.cpos.line) && (d.apos.endLine == d.cpos.line) && chkE G bk false e d.x
        | none => false)
      | none => false)
    | none => false)
  | .ife c a b, st => (match gIf st with
    | some (x, p, q, _) => chkE G bk false c x && chkSs G bk a p && chkSs G bk b q
    | none => false)
  | .for tg it b, st => (match gFr st with
    | some (t, x, p, _) => !bk.hot && chkIt G bk false t it x && chkTg G bk tg t && chkSs G bk b p
    | none => false)
  | .whl c b, st => (match gWh st with
    | some (x, p, _) => !bk.hot && chkE G bk false c x && chkSs G bk b p
    | none => false)
  | .ret e, st => (match gRt st with
    | some (x, _) => chkE G bk false e x
    | none => false)
  | .rse c, st => (match gRs st with
    | some r => !bk.hot && decide (r.y = c) && isGl bk.sc c && okNm c && G.exs.contains c
    | none => false)
  | .exp e, st => (match gEx st with
    | some (x, _) => notLC x && chkE G bk false e x
    | none => false)
  | .pas, st => isPass st
  | .tryx b i c ks h, st => (match gTr st with
    | some t => (match t.n with
      | some n => !bk.hot && decide (ks = G.exs) && decide (t.x = c) && isGl bk.sc c && okNm c && G.exs.contains c && decide (G.N[i]? = some n) && isLocal bk.sc n && chkSs G bk b t.b && chkSs G { bk with hot := true } h (t.h0 :: t.h)
      | none => false)
    | none => false)
  | .tryo b c ks h, st => (match gTr st with
    | some t => (match t.n with
      | none => !bk.hot && decide (ks = G.exs) && decide (t.x = c) && isGl bk.sc c && okNm c && G.exs.contains c && chkSs G bk b t.b && chkSs G { bk with hot := true } h (t.h0 :: t.h)
      | some _ => false)
    | none => false)
  | .frz _, _ => false
  | .extd i e, st => (match gEx st with
    | some (x, _) => (match gMc x with
      | some c => nameAt G bk i c.y && decide (c.m = ("extend" : Str)) && (c.apos.endLine == c.cpos.line) && chkE G bk false e c.x
      | none => false)
    | none => false)
  | .dnew i d, st => (match gAsg st with
    | some (t, x, _) => (match gNm t with
      | some (y, _) => decide (G.N[i]? = some y) && bk.st y && mkD d && chkD G bk d x
      | none => false)
    | none => false)
  | .dst i k e, st => (match gAsg st with
    | some (t, x, _) => (match gSb t with
      | some (y, _, b, _) => nameAt G bk i y && chkE G bk false k b && chkE G bk false e x && notLC x
      | none => false)
    | none => false)
  | .dpar i k e1 j e2, st => (match gAsg st with
    | some (t, x, _) => (match gTp t, gTp x with
      | some (ts, _, _), some (xs, _, _) => (match g2 ts, g2 xs with
        | some (t1, t2), some (a, b) => (match gSb t1, gNm t2 with
          | some (y, _, c, _), some (z, _) => !bk.hot && nameAt G bk i y && decide (G.N[j]? = some z) && bk.st z && decide (i ≠ j) && chkE G bk false k c && chkE G bk false e1 a && chkE G bk false e2 b
          | _, _ => false)
        | _, _ => false)
      | _, _ => false)
    | none => false)
def chkSs (G : Gx) (bk : Bk) : Ss → List Stmt → Bool
  | .nil, xs => xs.isEmpty
  | .cons s r, xs => match s with
    | .frz _ => chkSs G bk r xs
    | s => (match xs with
      | x :: xs => chkS G bk s x && chkSs G bk r xs
      | [] => false)
end
mutual
def S.okT (T : Nat → List D → R D) : S → Prop
  | .asn _ e => e.okT T
  | .own _ e => e.okT T
  | .frz _ => True
  | .par l => l.okT T
  | .sti _ ix e => ix.okT T ∧ e.okT T
  | .app _ e => e.okT T
  | .appop _ _ e => e.okT T
  | .extd _ e => e.okT T
  | .dnew _ d => d.okT T
  | .dst _ k e => k.okT T ∧ e.okT T
  | .dpar _ k e1 _ e2 => k.okT T ∧ e1.okT T ∧ e2.okT T
  | .ife c a b => c.okT T ∧ a.okT T ∧ b.okT T
  | .for _ it b => it.okT T ∧ b.okT T
  | .whl c b => c.okT T ∧ b.okT T
  | .ret e => e.okT T
  | .rse _ => True
  | .exp e => e.okT T
  | .pas => True
  | .tryx b _ _ _ h => b.okT T ∧ h.okT T
  | .tryo b _ _ h => b.okT T ∧ h.okT T
def Ss.okT (T : Nat → List D → R D) : Ss → Prop
  | .nil => True
  | .cons s r => s.okT T ∧ r.okT T
def Ps.okT (T : Nat → List D → R D) : Ps → Prop
  | .nil => True
  | .cons _ _ e r => e.okT T ∧ r.okT T
end
/-- an own exception class -/
structure ExF (X : Cx) (cv : Str → Value) (c : Str) : Prop where
  ok : ∃ C, cv c = .ref C ∧ X.mg c = some (.ref C) ∧ PySem.W.excIn X.K C He.veBase "ValueError.__new__" = true ∧ PySem.W.keepIn X.K (.ref C) = true ∧ PySem.W.subIn X.K (.ref C) (.type "BaseException") = some true ∧ PySem.W.typeIn X.K (.ref C) = some (.type "type")
structure Ws (X : Cx) (G : Gx) (T : Nat → List D → R D) (cv : Str → Value) (bk : Bk) (ea : Ea) : Prop where
  w : Wf X G T cv bk ea
  kind : X.env.scope.kind = .function
  stk : bk.hot = false → X.stack = X.env :: X.outer
  frm : bk.hot = false → X.env.frame = some X.env.locals
  po : bk.hot = false → PassesOwn (model X.prog X.w) X.A X.env X.xe
  exn : ∀ c, G.exs.contains c = true → ExF X cv c
  exm : ∀ d c, G.exs.contains d = true → G.exs.contains c = true → PySem.W.exmOne X.K (cv d) (cv c) = some (isSub d c)
  ief : G.ise = true → ∀ n c, G.exs.contains n = true → G.exs.contains c = true → ∃ D C, cv n = .ref D ∧ cv c = .ref C ∧ ExcC X.K D ∧ PySem.W.kitOne X.K (.ref D) (.ref C) = some (isSub n c) ∧ X.mg c = some (.ref C)
section
variable {X : Cx} {G : Gx} {T : Nat → List D → R D} {cv : Str → Value} {bk : Bk} {ea : Ea} {F0 H0 : Hp} {W : WD}
theorem loc_ok {sc : Scope} {x : Str} (h : isLocal sc x = true) : sc.names.lookup x = some .local := by
  unfold isLocal at h
  split at h
  · assumption
  · cases h
theorem Wf.tr (w : Wf X G T cv bk ea) (hb : bk.hot = false) (pn : List (Addr × Obj)) (xe : Value → Shared → Prop) : Wf (X.tr pn xe) G T cv bk ea where
  eo := w.eo
  hN := w.hN
  nd := w.nd
  sc := w.sc
  st := w.st
  calm := w.calm
  rm := ⟨w.rm.room⟩
  cns := w.cns
  fre := w.fre
  fns := fun h j hj x n hx hn => ⟨(w.fns h j hj x n hx hn).ok⟩
  isE := fun h => by rw [hb] at h; cases h
theorem Ws.tr (w : Ws X G T cv bk ea) (hb : bk.hot = false) (pn : List (Addr × Obj)) (xe : Value → Shared → Prop) (po : PassesOwn (model X.prog X.w) X.A X.env xe) : Ws (X.tr pn xe) G T cv bk ea where
  w := w.w.tr hb pn xe
  kind := w.kind
  stk := w.stk
  frm := w.frm
  po := fun _ => po
  exn := fun c h => ⟨(w.exn c h).ok⟩
  exm := w.exm
  ief := w.ief
/-- the exception that a suite holds -/
abbrev eaOf (G : Gx) (cv : Str → Value) (ea : Ea) (a : Addr) (cls : Value) : Ea := ⟨a, fun n => cls = cv n ∧ G.exs.contains n = true, ea.P, ea.w⟩
theorem Ws.suite (w : Ws X G T cv bk ea) (a : Addr) (oe : Obj) (cls : Value) (pn : List (Addr × Obj)) (hz : Zc cls none oe) (hf : ∃ vs, oe.data = .fields vs) :
    Ws (X.suite a ((a, oe) :: pn)) G T cv { bk with hot := true } (eaOf G cv ea a cls) where
  w := {
    eo := w.w.eo
    hN := w.w.hN
    nd := w.w.nd
    sc := w.w.sc
    st := w.w.st
    calm := fun h => by cases h
    rm := ⟨w.w.rm.room⟩
    cns := w.w.cns
    fre := w.w.fre
    fns := fun h => by cases h
    isE := fun _ hi n c hn hc x p p2 p3 p4 i hg hm hN hv hd hg2 hd2 => by
      obtain ⟨rfl, hn⟩ := hn
      obtain ⟨D, C, e1, e2, e3, e4, e5⟩ := w.ief hi n c hn hc
      rw [e1] at hz
      have hcl := call_isE (X := X) (a := a) (pn := pn) e3 hz hf
      refine PEi (pe_callB hcl hg hm boot_isi (pa_cons (pe_var hN hv (nm_ok hd).1 (nm_ok hd).2.1) (pa_cons (pe_glob (v := .ref C) hg2 e5 rfl (nm_ok hd2).1) pa_nil))) fun σ H Q ⟨h1, h2⟩ => ?_
      exact ⟨_, h1, .ref C, .ref C, _, rfl, fun u hu => hu, e4, h2⟩ }
  kind := w.kind
  stk := fun h => by cases h
  frm := fun h => by cases h
  po := fun h => by cases h
  exn := fun c h => ⟨(w.exn c h).ok⟩
  exm := w.exm
  ief := w.ief
/-! ### refusals -/
theorem ps_rseD {c : Str} {m : Str} {j : Nat} {p p2 pos pos' : Pos} (w : Ws X G T cv bk ea) (tk : Takes X (wx cv W)) (hc : X.calm = true) (hg : Gl X c) (hd : okNm c = true) (hx : G.exs.contains c = true) :
    PS X (.Raise (some (.Call (.Name c p) [.Constant (.str m) j p2] [] pos)) none pos') (rdS X.K F0 H0 ea W fun env => .ex c env) := by
  obtain ⟨C, e1, e2, e3, e4, e5, e6⟩ := (w.exn c hx).ok
  refine PSi (ps_raise hc tk (pmk_own PySem.F.excBase_ValueError e3 e2 e4 (raises_own e5 e6) hg (nm_ok hd).1)) fun D σ H ⟨F, env, r, q⟩ => ?_
  exact ⟨c, e1.symm, rfl, q σ F H (Same.refl _) r⟩
/-- the wish of a try's body, by names -/
def wt (cv : Str → Value) (W : WX) : WD := fun c σ H => W (cv c) none σ H
theorem takes_wt {Y : Cx} {W : WX} (tk : Takes Y W) : Takes Y (wx cv (wt cv W)) := tk.imp fun c d σ H ⟨n, e1, e2, h⟩ => by
  subst e1 e2
  exact h
/-- the reading of a suite -/
def tsD (G : Gx) (cv : Str → Value) (ea : Ea) (K : PySem.W.Frag) (F0 H0 : Hp) (h : Fp.Env → Fl) : Addr → Value → Option Addr → TS := fun a cls d D σ H => d = none ∧ rdS K F0 H0 (eaOf G cv ea a cls) WF h D σ H
theorem ps_tryoD {c : Str} {body suite : List Stmt} {b0 : Stmt} {np pos pos' : Pos} {f h : Fp.Env → Fl} (w : Ws X G T cv bk ea) (tk : Takes X (wx cv W)) (hb : bk.hot = false) (hg : Gl X c) (hd : okNm c = true) (hx : G.exs.contains c = true)
    (hbd : ∀ (W : WD) (pn : List (Addr × Obj)) (xe : Value → Shared → Prop), Takes (X.tr pn xe) (wx cv W) → PassesOwn (model X.prog X.w) X.A X.env xe → PSs (X.tr pn xe) body (rdS X.K F0 H0 ea W f))
    (hsu : ∀ (a : Addr) (oe : Obj) (cls : Value) (pn : List (Addr × Obj)), Zc cls none oe → (∃ vs, oe.data = .fields vs) → PSs (X.suite a ((a, oe) :: pn)) (b0 :: suite) (rdS X.K F0 H0 (eaOf G cv ea a cls) WF h)) :
    PS X (.Try body [.ExceptHandler (some (.Name c np)) none (b0 :: suite) pos'] [] [] pos) (rdS X.K F0 H0 ea W fun env => match f env with
      | .ex d e => if G.exs.contains d = false then .no else if isSub d c = true then (match h (noExc e) with
        | .nx e => .nx (noExc e)
        | .rt d => .rt d
        | _ => .no) else .ex d e
      | r => r) := by
  obtain ⟨C, e1, e2, _⟩ := (w.exn c hx).ok
  have hn : Names X c (cv c) := ⟨hg, (nm_ok hd).1, .inl (by rw [e1]; exact e2)⟩
  refine PSi (ps_try_only (ts := tsD G cv ea X.K F0 H0 h) (tb := fun Wx => rdS X.K F0 H0 ea (wt cv Wx) f) (w.stk hb) (w.frm hb) hn tk (fun Wx pn xe tk' po => hbd (wt cv Wx) pn xe (takes_wt tk') po)
    (fun a oe cls d pn hz hf => ?_)) fun D σ H ⟨F, env, r, q⟩ => ⟨F, env, r, ?_⟩
  · refine ⟨fun pins s σ H D I ⟨hd, q⟩ => ?_⟩
    subst hd
    exact (hsu a oe cls pn hz hf).run pins s σ H D I q
  · revert q
    dsimp only
    cases f env with
    | nx e => exact fun q => q
    | rt d => exact fun q => q
    | no => exact fun q => q
    | ex d e =>
      dsimp only
      intro q σ' F' H' sf r'
      by_cases hk : G.exs.contains d = false
      · rw [if_pos hk] at q; exact q.elim
      · rw [if_neg hk] at q
        have hk : G.exs.contains d = true := by simpa using hk
        refine ⟨isSub d c, w.exm d c hk hx, fun hs a ha => ?_, fun hs => ?_⟩
        · rw [if_pos hs] at q
          refine ⟨rfl, F', noExc e, r'.noExc _ rfl rfl, ?_⟩
          revert q
          cases h (noExc e) with
          | nx e2 => exact fun q σ3 F3 H3 s3 r3 => q σ3 F3 H3 (sf.trans s3) (r3.noExc ea rfl rfl)
          | rt d => exact fun q v F3 H3 s3 e3 rv => q v F3 H3 (sf.trans s3) e3 rv
          | ex _ _ => exact fun q => q.elim
          | no => exact fun q => q
        · rw [hs, if_neg Bool.false_ne_true] at q
          exact ⟨d, rfl, rfl, q σ' F' H' sf r'⟩
theorem ps_tryxD {c n : Str} {i : Nat} {body suite : List Stmt} {b0 : Stmt} {np pos pos' : Pos} {f h : Fp.Env → Fl} (w : Ws X G T cv bk ea) (tk : Takes X (wx cv W)) (hb : bk.hot = false) (hg : Gl X c) (hd : okNm c = true) (hx : G.exs.contains c = true)
    (hi : X.N[i]? = some n) (hln : X.env.scope.names.lookup n = some .local)
    (hbd : ∀ (W : WD) (pn : List (Addr × Obj)) (xe : Value → Shared → Prop), Takes (X.tr pn xe) (wx cv W) → PassesOwn (model X.prog X.w) X.A X.env xe → PSs (X.tr pn xe) body (rdS X.K F0 H0 ea W f))
    (hsu : ∀ (a : Addr) (oe : Obj) (cls : Value) (pn : List (Addr × Obj)), Zc cls none oe → (∃ vs, oe.data = .fields vs) → PSs (X.suite a ((a, oe) :: pn)) (b0 :: suite) (rdS X.K F0 H0 (eaOf G cv ea a cls) WF h)) :
    PS X (.Try body [.ExceptHandler (some (.Name c np)) (some n) (b0 :: suite) pos'] [] [] pos) (rdS X.K F0 H0 ea W fun env => match f env with
      | .ex d e => if G.exs.contains d = false then .no else if isSub d c = true then (match setS i (.exc d) (noExc e) with
        | .ok e => (match h e with
          | .nx e => ofE (setS i .un (noExc e))
          | .rt d => .rt d
          | _ => .no)
        | _ => .no) else .ex d e
      | r => r) := by
  obtain ⟨C, e1, e2, _⟩ := (w.exn c hx).ok
  have hn : Names X c (cv c) := ⟨hg, (nm_ok hd).1, .inl (by rw [e1]; exact e2)⟩
  refine PSi (ps_try_as (ts := tsD G cv ea X.K F0 H0 h) (tb := fun Wx => rdS X.K F0 H0 ea (wt cv Wx) f) (w.stk hb) (w.frm hb) w.w.nd hi hln hn tk (fun Wx pn xe tk' po => hbd (wt cv Wx) pn xe (takes_wt tk') po)
    (fun a oe cls d pn hz hf => ?_)) fun D σ H ⟨F, env, r, q⟩ => ⟨F, env, r, ?_⟩
  · refine ⟨fun pins s σ H D I ⟨hd, q⟩ => ?_⟩
    subst hd
    exact (hsu a oe cls pn hz hf).run pins s σ H D I q
  · revert q
    dsimp only
    cases f env with
    | nx e => exact fun q => q
    | rt d => exact fun q => q
    | no => exact fun q => q
    | ex d e =>
      dsimp only
      intro q σ' F' H' sf r'
      by_cases hk : G.exs.contains d = false
      · rw [if_pos hk] at q; exact q.elim
      · rw [if_neg hk] at q
        have hk : G.exs.contains d = true := by simpa using hk
        refine ⟨isSub d c, w.exm d c hk hx, fun hs a ha => ?_, fun hs => ?_⟩
        · rw [if_pos hs] at q
          unfold setS at q
          by_cases hl : i < (noExc e).length
          · rw [if_pos hl] at q
            dsimp only at q
            refine ⟨rfl, F', (noExc e).set i (.exc d), (r'.noExc (eaOf G cv ea a (cv d)) rfl rfl).setN (s := .exc d) (x := some (.ref a)) ⟨rfl, rfl, hk⟩ (fun _ z => nomatch z), ?_⟩
            revert q
            cases h ((noExc e).set i (.exc d)) with
            | nx e2 =>
              intro q σ3 F3 H3 s3 r3
              dsimp only at q
              by_cases hl2 : i < (noExc e2).length
              · rw [if_pos hl2] at q
                exact q (σ3.set i none) F3 H3 (sf.trans s3) ((r3.noExc ea rfl rfl).setN (s := .un) (x := none) trivial fun _ z => nomatch z)
              · rw [if_neg hl2] at q
                exact q.elim
            | rt d => exact fun q v F3 H3 s3 e3 rv => q v F3 H3 (sf.trans s3) e3 rv
            | ex _ _ => exact fun q => q.elim
            | no => exact fun q => q
          · rw [if_neg hl] at q; exact q.elim
        · rw [hs, if_neg Bool.false_ne_true] at q
          exact ⟨d, rfl, rfl, q σ' F' H' sf r'⟩
end
end Fp

set_option Elab.async false
set_option linter.all false
set_option maxRecDepth 100000
set_option maxHeartbeats 4000000
/-! All statements. -/
namespace Fp
open PySem PySem.Spec PyProof.Rows L2
section
variable {G : Gx} {T : Nat → List D → R D} {cv : Str → Value} {F0 H0 : Hp}
theorem imp_ofG {X : Cx} {ea : Ea} {W : WD} {xa : Fp.Env → R D} : ∀ σ H Q, rdV X.K F0 H0 ea W false xa σ H Q → rdG X.K F0 H0 ea W xa σ H Q := fun σ H Q ⟨F, env, r, q⟩ => by
  refine ⟨F, env, r, ?_⟩
  revert q
  cases xa env with
  | no => exact fun q => q
  | ex c => exact fun q => q
  | ok d =>
    refine fun q F' H' e => ⟨fun v _ hv => q F' H' e v (Rb.of hv), fun ds p vs ed hp ho hf hr => ?_⟩
    subst ed
    exact q (upd F' p (.lst vs)) H' (e.freeze hp ho hf) (.ref p) (Rb.of (.lst (LsX.of upd_same) (hr.mono (Fp.Same.upd hf))))
theorem sets_lc {X : Cx} {bk : Bk} {ea : Ea} {W : WD} {y : Str} {p pos : Pos} {i : Nat} {x : Expr} (e : E) (w : Ws X G T cv bk ea) (tk : Takes X (wx cv W)) (ok : e.okT T) (h : chkE G bk false e x = true) (hi : X.N[i]? = some y) (hn : notLC x = false)
    (hl : isLocal bk.sc y = true) (ho : lcNoOwn y x = true) (hp : lcLine p x = true) : SetsA X y p x pos i (rdG X.K F0 H0 ea W (evE e)) := by
  have hyl : X.env.scope.names.lookup y = some .local := by rw [w.w.sc]; exact loc_ok hl
  cases x with
  | ListComp elt gs scope lp =>
    have ho' : (scope.names.any fun (n, k) => n == y && (k == .local || k == .cell)) = false := by simpa [lcNoOwn] using ho
    have hsw : swapsWith (.ListComp elt gs scope lp) (some (.Name y p)) pos.line X.env = pure true := sw_true w.kind hyl hp ho'
    cases e with
    | lc own tg it cs e =>
      match gs, h, hsw with
      | [], h, hsw => simp [chkE] at h
      | _ :: _ :: _ :: _, h, hsw => simp [chkE] at h
      | [_, _], h, hsw => simp [chkE] at h
      | [⟨t, i, ifs, as⟩], h, hsw =>
        by_cases ha : as = 0
        · subst ha
          simp only [chkE, Bool.and_eq_true, Bool.not_eq_true'] at h
          obtain ⟨⟨⟨⟨⟨⟨h1, h2⟩, h3⟩, h4⟩, h5⟩, h6⟩, h7⟩ := h
          have hsub : ∀ j ∈ tgv tg, j ∈ own := fun j hj => by
            have := List.all_eq_true.mp h3 j hj
            simpa using this
          refine set_lcD (own := own) (tg := tg) (xi := evIt it) (xt := evCs cs) (xe := evE e) hi hyl hsw (w.w.calm h1) w.w.nd (by rw [w.w.hN, w.w.sc]; exact h2) hsub (it_shp h4) (sIt it w.w tk ok.1 h4) (fun s H C cl fp => ?_) (fun s H C cl fp => ?_) (fun s H C cl fp => ?_)
          · have wb := w.w.blk h1 s H scope cl C fp
            exact tg_sound (wb.calm h1) wb.hN wb.nd wb.st tg t h5
          · exact sCs cs (w.w.blk h1 s H scope cl C fp) (takesF) ok.2.1 h6
          · exact (sE e (w.w.blk h1 s H scope cl C fp) (takesF) ok.2.2 h7).v
        · simp [chkE, ha] at h
    | lc2 own tg it cs tg2 it2 cs2 e =>
      match gs, h, hsw with
      | [], h, hsw => simp [chkE] at h
      | _ :: _ :: _ :: _, h, hsw => simp [chkE] at h
      | [_], h, hsw => simp [chkE] at h
      | [⟨t, i, ifs, as⟩, ⟨t2, i2, ifs2, as2⟩], h, hsw =>
        by_cases ha : as = 0
        · by_cases ha2 : as2 = 0
          · subst ha ha2
            simp only [chkE, Bool.and_eq_true, Bool.not_eq_true'] at h
            obtain ⟨⟨⟨⟨⟨⟨⟨⟨⟨⟨h1, h2⟩, h3⟩, h4⟩, h5⟩, h6⟩, h7⟩, h8⟩, h9⟩, h10⟩, h11⟩ := h
            have hsub : ∀ j ∈ tgv tg, j ∈ own := fun j hj => by
              have := List.all_eq_true.mp h3 j hj
              simpa using this
            have hsub2 : ∀ j ∈ tgv tg2, j ∈ own := fun j hj => by
              have := List.all_eq_true.mp h7 j hj
              simpa using this
            refine set_lc2D (own := own) (tg := tg) (xi := evIt it) (xt := evCs cs) (xe := evE e) (tg2 := tg2) (xi2 := evIt it2) (xt2 := evCs cs2) hi hyl hsw (w.w.calm h1) w.w.nd (by rw [w.w.hN, w.w.sc]; exact h2) hsub hsub2 (it_shp h4) (it_shp h8) (sIt it w.w tk ok.1 h4)
              (fun s H C cl fp => ?_) (fun s H C cl fp => ?_) (fun s H C cl fp => ?_) (fun s H C cl fp => ?_) (fun s H C cl fp => ?_) (fun s H C cl fp => ?_)
            · have wb := w.w.blk h1 s H scope cl C fp
              exact tg_sound (wb.calm h1) wb.hN wb.nd wb.st tg t h5
            · exact sCs cs (w.w.blk h1 s H scope cl C fp) (takesF) ok.2.1 h6
            · exact sIt it2 (w.w.blk h1 s H scope cl C fp) (takesF) ok.2.2.1 h8
            · have wb := w.w.blk h1 s H scope cl C fp
              exact tg_sound (wb.calm h1) wb.hN wb.nd wb.st tg2 t2 h9
            · exact sCs cs2 (w.w.blk h1 s H scope cl C fp) (takesF) ok.2.2.2.1 h10
            · exact (sE e (w.w.blk h1 s H scope cl C fp) (takesF) ok.2.2.2.2 h11).v
          · subst ha; simp [chkE, ha2] at h
        · simp [chkE, ha] at h
    | _ => simp [chkE] at h
  | _ => cases hn
theorem sw_cell {x : Expr} {y : Str} {p : Pos} {l : Nat} {env : PySem.Env} (h : env.scope.names.lookup y ≠ some .local) : swapsWith x (some (.Name y p)) l env = pure false := by
  have h' : (env.kindOf y == some .local) = false := by
    cases e : (env.kindOf y == some NameKind.local) with
    | false => rfl
    | true => exact absurd (eq_of_beq e) h
  cases x <;> first
    | rfl
    | (unfold swapsWith
       simp only [h', Bool.and_false, Bool.false_and]
       done)
    | (unfold swapsWith
       simp only [h', Bool.and_false, Bool.false_and]
       rfl)
theorem sets_all {X : Cx} {bk : Bk} {ea : Ea} {W : WD} {y : Str} {p pos : Pos} {i : Nat} {x : Expr} (e : E) (w : Ws X G T cv bk ea) (tk : Takes X (wx cv W)) (ok : e.okT T) (h : chkE G bk false e x = true) (hi : X.N[i]? = some y) (hst : bk.st y = true)
    (hs : okSet bk y p x = true) : SetsA X y p x pos i (rdV X.K F0 H0 ea W false (evE e)) ∧ (mk e = true → SetsA X y p x pos i (rdG X.K F0 H0 ea W (evE e))) := by
  obtain ⟨s1, s2⟩ := w.w.st y hst
  by_cases hn : notLC x = true
  · have g := sE (F0 := F0) (H0 := H0) e w.w tk ok h
    exact ⟨sets_plain w.w.nd hi s1 s2 g.v (sw_none (chk_shp h) hn), fun hm => sets_plain w.w.nd hi s1 s2 (g.g rfl hm) (sw_none (chk_shp h) hn)⟩
  · have hn : notLC x = false := by simpa using hn
    unfold okSet at hs
    rw [hn, Bool.false_or, Bool.or_eq_true] at hs
    rcases hs with hs | hs
    · have g := sE (F0 := F0) (H0 := H0) e w.w tk ok h
      have hsw : ∀ l, swapsWith x (some (.Name y p)) l X.env = pure false := fun l => sw_cell (fun z => by
        have : isLocal bk.sc y = true := by unfold isLocal; rw [← w.w.sc, z]
        rw [this] at hs; cases hs)
      exact ⟨sets_plain w.w.nd hi s1 s2 g.v (hsw _), fun hm => sets_plain w.w.nd hi s1 s2 (g.g rfl hm) (hsw _)⟩
    simp only [Bool.and_eq_true] at hs
    have g : SetsA X y p x pos i (rdG X.K F0 H0 ea W (evE e)) := sets_lc e w tk ok h hi hn hs.1.1 hs.1.2 hs.2
    exact ⟨⟨fun pins s σ H D I q => g.run pins s σ H D I (imp_ofG (X := X) σ H _ q)⟩, fun _ => g⟩
theorem q_of {X : Cx} {bk : Bk} {ea : Ea} {W : WD} {x : Expr} {o : Bool} (e : E) (w : Ws X G T cv bk ea) (tk : Takes X (wx cv W)) (ok : e.okT T) (h : chkE G bk false e x = true) (hm : (!o || mk e) = true) : PE X x (rdQ X.K F0 H0 ea W o (evE e)) := by
  have g := sE (F0 := F0) (H0 := H0) e w.w tk ok h
  cases o with
  | false => exact pe_qV g.v
  | true => exact pe_qG (g.g rfl (by simpa using hm))
theorem swapB_ok {vs : List Expr} (h : swapB vs = true) : vs.all (foldedForSure 8) = false ∧ vs.all (constantsAlone 8) = false := by
  unfold swapB at h
  simp only [Bool.and_eq_true, Bool.not_eq_true'] at h
  exact h
theorem sw_tup {ts : List Expr} {k : Nat} {tp : Pos} {x : Expr} {env : PySem.Env} (h : notTup x = true) (hs : shp x = true) : swappedStores [.Tuple ts k tp] x env = pure none := by
  cases x <;> first
    | rfl
    | (cases h; done)
    | (cases hs; done)
theorem ps_asgT {X : Cx} {ea : Ea} {W : WD} {tg : Tg} {ts : List Expr} {k : Nat} {tp pos : Pos} {x : Expr} {xa : Fp.Env → R D} (hn : notLC x = true) (ht : notTup x = true) (hs : shp x = true) (hx : PE X x (rdV X.K F0 H0 ea W false xa)) (hg : PG X (.Tuple ts k tp) (rdP X.K F0 H0 ea tg)) :
    PS X (.Assign [.Tuple ts k tp] x pos) (rdS X.K F0 H0 ea W fun env => ofR env (xa env) fun d => ofE (asg tg d env)) :=
  PSi (ps_asg hx hg (sole_none hs hn) (sw_tup ht hs)) fun D σ H ⟨F, env, r, q⟩ => ⟨F, env, r, AnsS.ofR (x := xa env) (D := D) r q fun d F' H' _ e k v hv => by
    have hv : Rp X.K F' v d := hv
    cases h : asg tg d env with
    | ok env' =>
      rw [h] at k
      exact ⟨F', env, d, env', r.grow e, hv, h, fun σ' r' _ _ => k σ' F' H' (Same.refl _) r'⟩
    | ex c => rw [h] at k; exact k.elim
    | no => rw [h] at k; exact k.elim⟩
theorem s_asn {X : Cx} {bk : Bk} {ea : Ea} {W : WD} {tg : Tg} {e : E} {t x : Expr} {pos : Pos} (w : Ws X G T cv bk ea) (tk : Takes X (wx cv W)) (ok : e.okT T) (h : chkAsn G bk tg e t x = true) :
    PS X (.Assign [t] x pos) (rdS X.K F0 H0 ea W fun env => ofR env (evE e env) fun d => ofE (asg tg d env)) := by
  unfold chkAsn at h
  split at h
  · split at h
    · rename_i i y p hn
      obtain rfl := gNm_ok hn
      simp only [Bool.and_eq_true, decide_eq_true_eq] at h
      obtain ⟨⟨⟨h1, h2⟩, h3⟩, h4⟩ := h
      exact ps_asnD (sets_all e w tk ok h3 (by rw [w.w.hN]; exact h1) h2 h4).1
    · cases h
  · split at h
    · rename_i ts k p hn
      obtain rfl := gTp_ok hn
      simp only [Bool.and_eq_true, Bool.not_eq_true'] at h
      obtain ⟨⟨⟨⟨h1, h2⟩, h3⟩, h4⟩, h5⟩ := h
      exact ps_asgT h4 h5 (chk_shp h3) (sE e w.w tk ok h3).v (tg_sound (w.w.calm h1) w.w.hN w.w.nd w.w.st _ _ h2)
    · cases h
theorem s_par2T {X : Cx} {bk : Bk} {ea : Ea} {W : WD} {i j : Nat} {o1 o2 : Bool} {e1 e2 : E} {ty tz a b : Expr} {k k2 : Nat} {p1 p2 pos : Pos} (w : Ws X G T cv bk ea) (tk : Takes X (wx cv W)) (ok : (Ps.cons i o1 e1 (.cons j o2 e2 .nil)).okT T) (h : chkPar2T G bk i o1 e1 j o2 e2 ty tz a b = true) :
    PS X (.Assign [.Tuple [ty, tz] k p1] (.Tuple [a, b] k2 p2) pos) (rdS X.K F0 H0 ea W fun env => match evPs (.cons i o1 e1 (.cons j o2 e2 .nil)) env with
      | .ok l => ofE (setAll l env)
      | .ex c => .ex c env
      | .no => .no) := by
  have he : (fun env => match evPs (.cons i o1 e1 (.cons j o2 e2 .nil)) env with
    | .ok l => ofE (setAll l env)
    | .ex c => .ex c env
    | .no => .no) = fun env => match ((evE e1 env).bind fun d => (slotOf o1 d).bind fun s => ((evE e2 env).bind fun d => (slotOf o2 d).bind fun t => R.ok [(j, t)]).bind fun l => R.ok ((i, s) :: l)) with
    | .ok l => ofE (setAll l env)
    | .ex c => .ex c env
    | .no => .no := rfl
  unfold chkPar2T at h
  split at h
  · rename_i y p z q h3 h4
    obtain rfl := gNm_ok h3
    obtain rfl := gNm_ok h4
    simp only [Bool.and_eq_true, decide_eq_true_eq, Bool.not_eq_true'] at h
    obtain ⟨⟨⟨⟨⟨⟨⟨⟨⟨⟨c1, c2⟩, c3⟩, c4⟩, c5⟩, c6⟩, c7⟩, c10⟩, c11⟩, c12⟩, c13⟩ := h
    obtain ⟨l1, l2⟩ := w.w.st _ c4
    obtain ⟨l3, l4⟩ := w.w.st _ c5
    have hne : X.env.scope.names.lookup y ≠ some .local ∨ X.env.scope.names.lookup z ≠ some .local := by
      rw [Bool.or_eq_true] at c7
      rcases c7 with c7 | c7
      · refine .inl fun z' => ?_
        have : isLocal bk.sc y = true := by unfold isLocal; rw [← w.w.sc, z']
        rw [this] at c7; cases c7
      · refine .inr fun z' => ?_
        have : isLocal bk.sc z = true := by unfold isLocal; rw [← w.w.sc, z']
        rw [this] at c7; cases c7
    have hp := ps_par2T (F0 := F0) (H0 := H0) (pos := pos) (px := p) (py := q) (pt := p1) (pt2 := p2) (kt := k) (k2 := k2) (w.w.calm c1) w.w.nd (by rw [w.w.hN]; exact c2) (by rw [w.w.hN]; exact c3) c6 l1 l3 l2 l4 (swapN2 hne (chk_shp c12) (chk_shp c13)) (chk_shp c12) (chk_shp c13)
      (q_of e1 w tk ok.1 c12 c10) (q_of e2 w tk ok.2.1 c13 c11)
    refine PSi hp fun D σ H q => ?_
    rw [he] at q
    exact q
  · cases h
theorem s_par {X : Cx} {bk : Bk} {ea : Ea} {W : WD} {l : Ps} {ts xs : List Expr} {k k2 : Nat} {p1 p2 pos : Pos} (w : Ws X G T cv bk ea) (tk : Takes X (wx cv W)) (ok : l.okT T) (h : chkPs G bk l ts xs = true) :
    PS X (.Assign [.Tuple ts k p1] (.Tuple xs k2 p2) pos) (rdS X.K F0 H0 ea W fun env => match evPs l env with
      | .ok l => ofE (setAll l env)
      | .ex c => .ex c env
      | .no => .no) := by
  unfold chkPs at h
  split at h
  · rename_i i o1 e1 j o2 e2
    split at h
    · rename_i ty tz a b h1 h2
      obtain rfl := g2_ok h1
      obtain rfl := g2_ok h2
      have hor := (Bool.or_eq_true _ _).mp h
      clear h
      refine hor.elim (fun h => ?_) fun h => s_par2T w tk ok h
      clear hor
      unfold chkPar2 at h
      split at h
      · rename_i y p z q h3 h4
        obtain rfl := gNm_ok h3
        obtain rfl := gNm_ok h4
        simp only [Bool.and_eq_true, decide_eq_true_eq, Bool.not_eq_true'] at h
        obtain ⟨⟨⟨⟨⟨⟨⟨⟨⟨⟨⟨⟨c1, c2⟩, c3⟩, c4⟩, c5⟩, c6⟩, c7⟩, c8⟩, c9⟩, c10⟩, c11⟩, c12⟩, c13⟩ := h
        have ly : X.env.scope.names.lookup y = some .local := by rw [w.w.sc]; exact loc_ok c4
        have lz : X.env.scope.names.lookup z = some .local := by rw [w.w.sc]; exact loc_ok c5
        obtain ⟨f1, f2⟩ := swapB_ok c9
        have hp := ps_par2D (F0 := F0) (H0 := H0) (pos := pos) (pt := p1) (pt2 := p2) (kt := k) (k2 := k2) (w.w.calm c1) w.w.nd (by rw [w.w.hN]; exact c2) (by rw [w.w.hN]; exact c3) c6 ly lz (swap2 w.kind ly lz c7 c8 (chk_shp c12) (chk_shp c13) f1 f2) (chk_shp c12) (chk_shp c13)
          (q_of e1 w tk ok.1 c12 c10) (q_of e2 w tk ok.2.1 c13 c11)
        refine PSi hp fun D σ H q => ?_
        have : (fun env => match evPs (.cons i o1 e1 (.cons j o2 e2 .nil)) env with
          | .ok l => ofE (setAll l env)
          | .ex c => .ex c env
          | .no => .no) = fun env => match ((evE e1 env).bind fun d => (slotOf o1 d).bind fun s => ((evE e2 env).bind fun d => (slotOf o2 d).bind fun t => R.ok [(j, t)]).bind fun l => R.ok ((i, s) :: l)) with
          | .ok l => ofE (setAll l env)
          | .ex c => .ex c env
          | .no => .no := rfl
        rw [this] at q
        exact q
      · cases h
    · cases h
  · rename_i i o1 e1 j o2 e2 l o3 e3
    split at h
    · rename_i ty tz tu a b c h1 h2
      obtain rfl := g3_ok h1
      obtain rfl := g3_ok h2
      unfold chkPar3 at h
      split at h
      · rename_i y p z q u r h3 h4 h5
        obtain rfl := gNm_ok h3
        obtain rfl := gNm_ok h4
        obtain rfl := gNm_ok h5
        simp only [Bool.and_eq_true, decide_eq_true_eq, Bool.not_eq_true'] at h
        obtain ⟨⟨⟨⟨⟨⟨⟨⟨⟨⟨⟨⟨⟨⟨⟨⟨⟨⟨⟨⟨⟨c1, c2⟩, c3⟩, c4⟩, c5⟩, c6⟩, c7⟩, d1⟩, d2⟩, d3⟩, d4⟩, d5⟩, d6⟩, d7⟩, d8⟩, d9⟩, m1⟩, m2⟩, m3⟩, k1⟩, k2'⟩, k3⟩ := h
        have ly : X.env.scope.names.lookup y = some .local := by rw [w.w.sc]; exact loc_ok c5
        have lz : X.env.scope.names.lookup z = some .local := by rw [w.w.sc]; exact loc_ok c6
        have lu : X.env.scope.names.lookup u = some .local := by rw [w.w.sc]; exact loc_ok c7
        obtain ⟨f1, f2⟩ := swapB_ok d9
        have hp := ps_par3D (F0 := F0) (H0 := H0) (pos := pos) (pt := p1) (pt2 := p2) (kt := k) (k2 := k2) (w.w.calm c1) w.w.nd (by rw [w.w.hN]; exact c2) (by rw [w.w.hN]; exact c3) (by rw [w.w.hN]; exact c4) d1 d2 d3 ly lz lu
          (swap3 w.kind ly lz lu d4 d5 d6 d7 d8 (chk_shp k1) (chk_shp k2') (chk_shp k3) f1 f2) (chk_shp k1) (chk_shp k2') (chk_shp k3)
          (q_of e1 w tk ok.1 k1 m1) (q_of e2 w tk ok.2.1 k2' m2) (q_of e3 w tk ok.2.2.1 k3 m3)
        refine PSi hp fun D σ H q => ?_
        have : (fun env => match evPs (.cons i o1 e1 (.cons j o2 e2 (.cons l o3 e3 .nil))) env with
          | .ok l => ofE (setAll l env)
          | .ex c => .ex c env
          | .no => .no) = fun env => match ((evE e1 env).bind fun d => (slotOf o1 d).bind fun s => ((evE e2 env).bind fun d => (slotOf o2 d).bind fun t => ((evE e3 env).bind fun d => (slotOf o3 d).bind fun v => R.ok [(l, v)]).bind fun l => R.ok ((j, t) :: l)).bind fun l => R.ok ((i, s) :: l)) with
          | .ok l => ofE (setAll l env)
          | .ex c => .ex c env
          | .no => .no := rfl
        rw [this] at q
        exact q
      · cases h
    · cases h
  · cases h
theorem chkD_sw {bk : Bk} {d : DE} {x : Expr} {t : Option Expr} {l : Nat} {env : PySem.Env} (h : chkD G bk d x = true) : swapsWith x t l env = pure false := by
  cases d <;> cases x <;> first
    | rfl
    | (simp [chkD] at h; done)
mutual
theorem sS : ∀ (st : S) {X : Cx} {bk : Bk} {ea : Ea} {W : WD} {x : Stmt}, Ws X G T cv bk ea → Takes X (wx cv W) → st.okT T → chkS G bk st x = true → PS X x (rdS X.K F0 H0 ea W (exS st))
  | .asn tg e, X, bk, ea, W, x, w, tk, ok, h => by
    rw [chkS] at h
    split at h
    · rename_i t v p hg
      obtain rfl := gAsg_ok hg
      exact s_asn w tk ok h
    · cases h
  | .own i e, X, bk, ea, W, x, w, tk, ok, h => by
    rw [chkS] at h
    split at h
    · rename_i t v p hg
      obtain rfl := gAsg_ok hg
      split at h
      · rename_i y q hn
        obtain rfl := gNm_ok hn
        simp only [Bool.and_eq_true, decide_eq_true_eq] at h
        obtain ⟨⟨⟨⟨h1, h2⟩, h3⟩, h4⟩, h5⟩ := h
        exact ps_ownD ((sets_all e w tk ok h4 (by rw [w.w.hN]; exact h1) h2 h5).2 h3)
      · cases h
    · cases h
  | .par l, X, bk, ea, W, x, w, tk, ok, h => by
    rw [chkS] at h
    split at h
    · rename_i t v p hg
      obtain rfl := gAsg_ok hg
      split at h
      · rename_i ts k p1 xs k2 p2 h1 h2
        obtain rfl := gTp_ok h1
        obtain rfl := gTp_ok h2
        exact s_par w tk ok h
      · cases h
    · cases h
  | .sti i ix e, X, bk, ea, W, x, w, tk, ok, h => by
    rw [chkS] at h
    split at h
    · rename_i t v p hg
      obtain rfl := gAsg_ok hg
      split at h
      · rename_i y pn b p2 h1
        obtain rfl := gSb_ok h1
        simp only [Bool.and_eq_true] at h
        obtain ⟨⟨⟨h1, h2⟩, h3⟩, h4⟩ := h
        obtain ⟨n1, n2, n3⟩ := name_ok w.w h1
        exact ps_stiD (chk_shp h2) n1 n2 n3 (chk_shp h3) h4 (sE e w.w tk ok.2 h3).v (sE ix w.w tk ok.1 h2).v
      · cases h
    · cases h
  | .app i e, X, bk, ea, W, x, w, tk, ok, h => by
    rw [chkS] at h
    split at h
    · rename_i v p hg
      obtain rfl := gEx_ok hg
      split at h
      · rename_i c hc
        obtain rfl := gMc_ok hc
        simp only [Bool.and_eq_true, decide_eq_true_eq] at h
        obtain ⟨⟨⟨h1, h2⟩, h3⟩, h4⟩ := h
        obtain ⟨n1, n2, n3⟩ := name_ok w.w h1
        rw [h2]
        exact ps_appD n1 n2 n3 h3 (chk_shp h4) (sE e w.w tk ok h4).v
      · cases h
    · cases h
  | .appop i j e, X, bk, ea, W, x, w, tk, ok, h => by
    rw [chkS] at h
    split at h
    · rename_i v p hg
      obtain rfl := gEx_ok hg
      split at h
      · rename_i c hc
        obtain rfl := gMc_ok hc
        split at h
        · rename_i d hd
          rw [gMc_ok hd]
          simp only [Bool.and_eq_true, decide_eq_true_eq] at h
          obtain ⟨⟨⟨⟨⟨⟨⟨h1, h2⟩, h3⟩, h4⟩, h5⟩, h6⟩, h7⟩, h8⟩ := h
          obtain ⟨n1, n2, n3⟩ := name_ok w.w h1
          obtain ⟨m1, m2, m3⟩ := name_ok w.w h2
          rw [h4, h5]
          exact ps_popD h3 n1 n2 n3 m1 m2 m3 h6 h7 (chk_shp h8) (sE e w.w tk ok h8).v
        · cases h
      · cases h
    · cases h
  | .ife c a b, X, bk, ea, W, x, w, tk, ok, h => by
    rw [chkS] at h
    split at h
    · rename_i v p q pos hg
      obtain rfl := gIf_ok hg
      simp only [Bool.and_eq_true] at h
      exact ps_ifeD ((sE c w.w tk ok.1 h.1.1).t rfl) (sSs a w tk ok.2.1 h.1.2) (sSs b w tk ok.2.2 h.2)
    · cases h
  | .for tg it b, X, bk, ea, W, x, w, tk, ok, h => by
    rw [chkS] at h
    split at h
    · rename_i t v p pos hg
      obtain rfl := gFr_ok hg
      simp only [Bool.and_eq_true, Bool.not_eq_true'] at h
      obtain ⟨⟨⟨h1, h2⟩, h3⟩, h4⟩ := h
      exact ps_forD (w.po h1) (w.w.calm h1) (it_shp h2) (sIt it w.w tk ok.1 h2) (tg_sound (w.w.calm h1) w.w.hN w.w.nd w.w.st _ _ h3) (sSs b w tk ok.2 h4)
    · cases h
  | .whl c b, X, bk, ea, W, x, w, tk, ok, h => by
    rw [chkS] at h
    split at h
    · rename_i v p pos hg
      obtain rfl := gWh_ok hg
      simp only [Bool.and_eq_true, Bool.not_eq_true'] at h
      obtain ⟨⟨h1, h2⟩, h3⟩ := h
      have hp := ps_whlD (pos := pos) (w.po h1) ((sE (F0 := F0) (H0 := H0) c w.w tk ok.1 h2).t rfl) (sSs b w tk ok.2 h3) turns
      have e : exS (.whl c b) = whlGo (evE c) (exSs b) turns := by funext env; rw [exS]
      rw [e]
      exact hp
    · cases h
  | .ret e, X, bk, ea, W, x, w, tk, ok, h => by
    rw [chkS] at h
    split at h
    · rename_i v p hg
      obtain rfl := gRt_ok hg
      exact ps_retD (sE (bor := false) e w.w tk ok h).v
    · cases h
  | .rse c, X, bk, ea, W, x, w, tk, ok, h => by
    rw [chkS] at h
    split at h
    · rename_i r hg
      obtain rfl := gRs_ok hg
      simp only [Bool.and_eq_true, decide_eq_true_eq, Bool.not_eq_true'] at h
      obtain ⟨⟨⟨⟨h1, h2⟩, h3⟩, h4⟩, h5⟩ := h
      rw [h2]
      exact ps_rseD w tk (w.w.calm h1) (gl_ok w.w h3) h4 h5
    · cases h
  | .exp e, X, bk, ea, W, x, w, tk, ok, h => by
    rw [chkS] at h
    split at h
    · rename_i v p hg
      obtain rfl := gEx_ok hg
      simp only [Bool.and_eq_true] at h
      exact ps_expD (chk_shp h.2) h.1 (sE (bor := false) e w.w tk ok h.2).v
    · cases h
  | .pas, X, bk, ea, W, x, w, tk, ok, h => by
    cases x <;> first
      | (simp [chkS, isPass] at h; done)
      | exact ps_passD
  | .tryx b i c ks hh, X, bk, ea, W, x, w, tk, ok, h => by
    rw [chkS] at h
    split at h
    · rename_i t hg
      obtain rfl := gTr_ok hg
      split at h
      · rename_i n hn
        simp only [Bool.and_eq_true, decide_eq_true_eq, Bool.not_eq_true'] at h
        obtain ⟨⟨⟨⟨⟨⟨⟨⟨⟨h1, h2⟩, h3⟩, h4⟩, h5⟩, h6⟩, h7⟩, h8⟩, h9⟩, h10⟩ := h
        subst h2
        rw [h3, hn]
        have hp := ps_tryxD (F0 := F0) (H0 := H0) (pos := t.pos) (pos' := t.pos') (np := t.np) w tk h1 (gl_ok w.w h4) h5 h6 (by rw [w.w.hN]; exact h7) (by rw [w.w.sc]; exact loc_ok h8)
          (fun W pn xe tk' po => sSs b (w.tr h1 pn xe po) tk' ok.1 h9) (fun a oe cls pn hz hf => sSs hh (w.suite a oe cls pn hz hf) takesF ok.2 h10)
        exact hp
      · cases h
    · cases h
  | .tryo b c ks hh, X, bk, ea, W, x, w, tk, ok, h => by
    rw [chkS] at h
    split at h
    · rename_i t hg
      obtain rfl := gTr_ok hg
      split at h
      · rename_i hn
        simp only [Bool.and_eq_true, decide_eq_true_eq, Bool.not_eq_true'] at h
        obtain ⟨⟨⟨⟨⟨⟨⟨h1, h2⟩, h3⟩, h4⟩, h5⟩, h6⟩, h9⟩, h10⟩ := h
        subst h2
        rw [h3, hn]
        have hp := ps_tryoD (F0 := F0) (H0 := H0) (pos := t.pos) (pos' := t.pos') (np := t.np) w tk h1 (gl_ok w.w h4) h5 h6
          (fun W pn xe tk' po => sSs b (w.tr h1 pn xe po) tk' ok.1 h9) (fun a oe cls pn hz hf => sSs hh (w.suite a oe cls pn hz hf) takesF ok.2 h10)
        exact hp
      · cases h
    · cases h
  | .frz i, X, bk, ea, W, x, w, tk, ok, h => by rw [chkS] at h; cases h
  | .extd i e, X, bk, ea, W, x, w, tk, ok, h => by
    rw [chkS] at h
    split at h
    · rename_i v p hg
      obtain rfl := gEx_ok hg
      split at h
      · rename_i c hc
        obtain rfl := gMc_ok hc
        simp only [Bool.and_eq_true, decide_eq_true_eq] at h
        obtain ⟨⟨⟨h1, h2⟩, h3⟩, h4⟩ := h
        obtain ⟨n1, n2, n3⟩ := name_ok w.w h1
        rw [h2]
        exact ps_extD n1 n2 n3 h3 (chk_shp h4) (sE e w.w tk ok h4).v
      · cases h
    · cases h
  | .dnew i d, X, bk, ea, W, x, w, tk, ok, h => by
    rw [chkS] at h
    split at h
    · rename_i t v p hg
      obtain rfl := gAsg_ok hg
      split at h
      · rename_i y q hn
        obtain rfl := gNm_ok hn
        simp only [Bool.and_eq_true, decide_eq_true_eq] at h
        obtain ⟨⟨⟨h1, h2⟩, h3⟩, h4⟩ := h
        have hd := sD (F0 := F0) (H0 := H0) d w.w tk ok h4
        rw [h3] at hd
        obtain ⟨s1, s2⟩ := w.w.st y h2
        exact ps_dnewD (sets_plain w.w.nd (by rw [w.w.hN]; exact h1) s1 s2 hd (chkD_sw h4))
      · cases h
    · cases h
  | .dst i k e, X, bk, ea, W, x, w, tk, ok, h => by
    rw [chkS] at h
    split at h
    · rename_i t v p hg
      obtain rfl := gAsg_ok hg
      split at h
      · rename_i y pn b p2 h1
        obtain rfl := gSb_ok h1
        simp only [Bool.and_eq_true] at h
        obtain ⟨⟨⟨h1, h2⟩, h3⟩, h4⟩ := h
        obtain ⟨n1, n2, n3⟩ := name_ok w.w h1
        exact ps_dstD w.w.eo w.w.rm n1 n2 n3 (chk_shp h2) (chk_shp h3) h4 (sE (bor := false) k w.w tk ok.1 h2).v (sE (bor := false) e w.w tk ok.2 h3).v
      · cases h
    · cases h
  | .dpar i k e1 j e2, X, bk, ea, W, x, w, tk, ok, h => by
    rw [chkS] at h
    split at h
    · rename_i t v p hg
      obtain rfl := gAsg_ok hg
      split at h
      · rename_i ts k1 p1 xs k2 p2 h1 h2
        obtain rfl := gTp_ok h1
        obtain rfl := gTp_ok h2
        split at h
        · rename_i t1 t2 a b h3 h4
          obtain rfl := g2_ok h3
          obtain rfl := g2_ok h4
          split at h
          · rename_i y pn c pc z pz h5 h6
            obtain rfl := gSb_ok h5
            obtain rfl := gNm_ok h6
            simp only [Bool.and_eq_true, decide_eq_true_eq, Bool.not_eq_true'] at h
            obtain ⟨⟨⟨⟨⟨⟨⟨g1, g2⟩, g3⟩, g4⟩, g5⟩, g6⟩, g7⟩, g8⟩ := h
            obtain ⟨n1, n2, n3⟩ := name_ok w.w g2
            obtain ⟨s1, s2⟩ := w.w.st z g4
            exact ps_dparD (w.w.calm g1) w.w.nd w.w.eo w.w.rm g5 n1 n2 n3 (by rw [w.w.hN]; exact g3) s1 s2 (chk_shp g6) (chk_shp g7) (chk_shp g8) (sE (bor := false) k w.w tk ok.1 g6).v (sE (bor := false) e1 w.w tk ok.2.1 g7).v (sE (bor := false) e2 w.w tk ok.2.2 g8).v
          · cases h
        · cases h
      · cases h
    · cases h
theorem sSs : ∀ (ss : Ss) {X : Cx} {bk : Bk} {ea : Ea} {W : WD} {xs : List Stmt}, Ws X G T cv bk ea → Takes X (wx cv W) → ss.okT T → chkSs G bk ss xs = true → PSs X xs (rdS X.K F0 H0 ea W (exSs ss))
  | .nil, X, bk, ea, W, xs, w, tk, ok, h => by
    cases xs with
    | nil => exact pss_nilD
    | cons _ _ => rw [chkSs] at h; cases h
  | .cons s r, X, bk, ea, W, xs, w, tk, ok, h => by
    unfold chkSs at h
    split at h
    · rename_i i
      have k := sSs r w tk ok.2 h
      refine PSsi k fun D σ H ⟨F, env, rl, q⟩ => ?_
      rw [exSs, exS] at q
      split at q
      · rename_i d e
        obtain ⟨F', sf, r'⟩ := rl.freeze e
        exact ⟨F', _, r', AnsS.grow q sf⟩
      · exact q.elim
      · exact ⟨F, env, rl, q⟩
    · split at h
      · simp only [Bool.and_eq_true] at h
        exact pss_consD (sS s w tk ok.1 h.1) (sSs r w tk ok.2 h.2)
      · cases h
end
end
end Fp

set_option Elab.async false
set_option linter.all false
set_option maxRecDepth 100000
set_option maxHeartbeats 4000000
/-! A def keeps the promise of its terms. -/
namespace Fp
open PySem PySem.Spec PyProof.Rows L2
section
variable {P : Program} {w : World} {K : PySem.W.Frag} {mg : Str → Option Value} {base : Heap} {cv : Str → Value}
/-- what is known of the module, for all defs -/
structure Md (K : PySem.W.Frag) (mg : Str → Option Value) (cv : Str → Value) (G : Gx) : Prop where
  cns : ∀ p ∈ G.cns, ∃ u, mg p.1 = some u ∧ cnsV p.2 u
  fre : ∀ x, G.fre.contains x = true → mg x = none
  exn : ∀ c, G.exs.contains c = true → ∃ C, cv c = .ref C ∧ mg c = some (.ref C) ∧ PySem.W.excIn K C He.veBase "ValueError.__new__" = true ∧ PySem.W.keepIn K (.ref C) = true ∧ PySem.W.subIn K (.ref C) (.type "BaseException") = some true ∧ PySem.W.typeIn K (.ref C) = some (.type "type")
  exm : ∀ d c, G.exs.contains d = true → G.exs.contains c = true → PySem.W.exmOne K (cv d) (cv c) = some (isSub d c)
  ief : G.ise = true → ∀ n c, G.exs.contains n = true → G.exs.contains c = true → ∃ D C, cv n = .ref D ∧ cv c = .ref C ∧ ExcC K D ∧ PySem.W.kitOne K (.ref D) (.ref C) = some (isSub n c) ∧ mg c = some (.ref C)
/-- a def that may be called -/
structure Cal (P : Program) (w : World) (K : PySem.W.Frag) (mg : Str → Option Value) (base : Heap) (cv : Str → Value) (k : Nat) (x : Str) (n : Nat) (g : List D → R D) : Prop where
  ok : ∃ f fd ps, FnOk P w K mg base (L2.CX P w) k f fd ps (spF K cv n g) ∧ mg x = some (.ref f) ∧ PySem.W.keepIn K (.ref f) = true ∧ Binds K fd ps []
theorem Cal.mono {j k : Nat} {x : Str} {n : Nat} {g : List D → R D} (h : j ≤ k) (c : Cal P w K mg base cv j x n g) : Cal P w K mg base cv k x n g := by
  obtain ⟨f, fd, ps, F, h1, h2, h3⟩ := c.ok
  exact ⟨f, fd, ps, F.mono h, h1, h2, h3⟩
theorem start_rel {F H : Hp} {ea : Ea} {N : List Str} {vs : List V} {ds : List D} (s : Same F H) (r : RpAll K F vs ds) (hl : vs.length ≤ N.length) :
    Rel K F H ea (ds.map Slot.val ++ List.replicate (N.length - ds.length) .un) (start N vs) F H := by
  have hlen := r.length
  refine ⟨.refl s, ?_, fun i sl x h1 h2 => ?_, fun i j s t x y a hij h1 h2 h3 h4 o1 o2 => ?_⟩
  · unfold L2.start
    rw [List.length_append, List.length_append, List.length_map, List.length_map, List.length_replicate, List.length_replicate, hlen]
  · by_cases hi : i < ds.length
    · rw [List.getElem?_append_left (by rw [List.length_map]; exact hi), List.getElem?_map, List.getElem?_eq_getElem hi] at h1
      cases h1
      obtain ⟨v, hv, rv⟩ := r.get (List.getElem?_eq_getElem hi)
      unfold L2.start at h2
      rw [List.getElem?_append_left (by rw [List.length_map, hlen]; exact hi), List.getElem?_map, hv] at h2
      cases h2
      exact ⟨v, rfl, rv⟩
    · rw [List.getElem?_append_right (by rw [List.length_map]; omega)] at h1
      have := List.mem_of_getElem? h1
      obtain ⟨_, rfl⟩ := List.mem_replicate.mp this
      trivial
  · obtain ⟨⟨d, hd⟩, _⟩ := o1
    subst hd
    by_cases hi : i < ds.length
    · rw [List.getElem?_append_left (by rw [List.length_map]; exact hi), List.getElem?_map, List.getElem?_eq_getElem hi] at h1
      cases h1
    · rw [List.getElem?_append_right (by rw [List.length_map]; omega)] at h1
      have := List.mem_of_getElem? h1
      obtain ⟨_, h⟩ := List.mem_replicate.mp this
      cases h
theorem own_loc {sc : Scope} {x : Str} (h : isOwn sc x = true) : Loc sc x := by
  unfold isOwn at h
  split at h
  · rename_i e; exact .inl e
  · rename_i e; exact .inr e
  · cases h
theorem fn_ok {name qual : Str} {params : Arguments} {body : List Stmt} {scope : Scope} {f : Addr} {fd : FuncData} {ps : List Str} {k : Nat} {G : Gx} {T : Nat → List D → R D} {b : Ss}
    (F : FunD K name qual params body scope [] [] f fd) (S : FnScope G.N ps scope) (hl : ps.length ≤ G.N.length) (hb : chkSs G ⟨scope, isOwn scope, false⟩ b body = true) (ok : b.okT T) (M : Md K mg cv G)
    (fns : ∀ j, j < G.lim → ∀ x n, G.fns[j]? = some x → G.ars[j]? = some n → Cal P w K mg base cv k x n (T j)) :
    FnOk P w K mg base (L2.CX P w) (k + 1) f fd ps (spF K cv ps.length (runF ps.length G.N.length b)) := by
  refine F.ok (CX := L2.CX P w) S (fun vs H Q E h => h.1) fun cdv A outer s H vs Q E hr h => ?_
  obtain ⟨hv, F1, ds, sf, ra, q⟩ := h
  let ea : Ea := ⟨0, fun _ => False, P, w⟩
  let W : WD := fun c _ H => E (cv c) none H
  have tk : Takes (cxOf (L2.CX P w) P w K mg base G.N qual scope f cdv A outer s H E) (wx cv W) := (takes_of (E := E) rfl rfl rfl rfl).imp fun c d σ H ⟨n, e1, e2, z⟩ => by
    subst e1 e2
    exact z
  have ws : Ws (cxOf (L2.CX P w) P w K mg base G.N qual scope f cdv A outer s H E) G T cv ⟨scope, isOwn scope, false⟩ ea := {
    w := {
      eo := ⟨rfl, rfl⟩
      hN := rfl
      nd := S.nd
      sc := rfl
      st := fun x h => ⟨own_loc h, .inl rfl⟩
      calm := fun _ => rfl
      rm := ⟨by have := hr.un; show (A.deeper _).units + 70 < cLine; omega⟩
      cns := M.cns
      fre := M.fre
      fns := fun _ j hj x n hx hn => by
        obtain ⟨f', fd', ps', F', h1, h2, h3⟩ := (fns j hj x n hx hn).ok
        exact ⟨k, f', fd', ps', F', hr, h1, h2, h3⟩
      isE := fun h => by cases h }
    kind := S.kind
    stk := fun _ => rfl
    frm := fun _ => rfl
    po := fun _ => passes_of rfl
    exn := fun c h => ⟨M.exn c h⟩
    exm := M.exm
    ief := M.ief }
  refine ⟨_, sSs (F0 := F1) (H0 := H) b ws tk ok hb, F1, _, start_rel sf ra (by omega), ?_⟩
  have hd : ds.length = ps.length := by rw [← ra.length]; exact hv
  unfold runF at q
  rw [if_pos hd, ← hd] at q
  revert q
  cases exSs b (ds.map Slot.val ++ List.replicate (G.N.length - ds.length) .un) with
  | rt d => exact fun q v F' H' s e rv => q F' H' e v rv
  | nx e => exact fun q σ' F' H' s r => q F' H' r.ext .non .non
  | ex c e => exact fun q σ' F' H' s r => q F' H' r.ext
  | no => exact fun q => q
end
end Fp

set_option Elab.async false
set_option linter.all false
set_option maxRecDepth 100000
set_option maxHeartbeats 4000000
/-! A module's defs, the law's end. -/
namespace Fp
open PySem PySem.Spec PyProof.Rows L2
/-! ### the head's facts: the module's, and what isinstance asks of own exception classes -/
def excB (K : PySem.W.Frag) (D : Addr) : Bool :=
  decide (PySem.W.findIn K (.ref D) "__getattribute__" = some (some (.builtin "BaseException.__getattribute__"))) && decide (PySem.W.findIn K (.ref D) "__getattr__" = some none) &&
  decide (PySem.W.subIn K (.ref D) (.type "BaseException") = some true) && PySem.W.hasDictIn K D && decide (PySem.W.findIn K (.ref D) "__class__" = some (some (.builtin "object.__class__"))) &&
  decide (PySem.W.specialIn K (.builtin "object.__class__") "__get__" = some (some (.builtin "getset_descriptor.__get__"))) && decide (PySem.W.takesIn K (.builtin "object.__class__") = some true) && decide (PySem.W.mroIn K D (.type "object") = some true)
theorem excB_ok {K : PySem.W.Frag} {D : Addr} (h : excB K D = true) : ExcC K D := by
  unfold excB at h
  simp only [Bool.and_eq_true, decide_eq_true_eq] at h
  obtain ⟨⟨⟨⟨⟨⟨⟨h1, h2⟩, h3⟩, h4⟩, h5⟩, h6⟩, h7⟩, h8⟩ := h
  exact ⟨h1, h2, h3, h4, h5, h6, h7, h8⟩
def isB (K : PySem.W.Frag) (ex : List Str) : Bool := ex.all fun n => excB K (He.ga K n) && ex.all fun c => decide (PySem.W.kitOne K (.ref (He.ga K n)) (.ref (He.ga K c)) = some (isSub n c))
def obsX (fa : List He.Fa) (fn : List He.DefD) (ex : List Str) (K : PySem.W.Frag) : He.AlD := ((He.obsD fa fn K).1 && isB K ex, (He.obsD fa fn K).2)
def SaysX (fa : List He.Fa) (fn : List He.DefD) (ex : List Str) (K : PySem.W.Frag) : Prop := obsX fa fn ex K = He.valD fn
theorem SaysX.d {fa : List He.Fa} {fn : List He.DefD} {ex : List Str} {K : PySem.W.Frag} (c : SaysX fa fn ex K) : He.SaysD fa fn K ∧ isB K ex = true := by
  have h1 : ((He.obsD fa fn K).1 && isB K ex) = true := congrArg (fun z : He.AlD => z.1) c
  have h2 : (obsX fa fn ex K).2 = (He.valD fn).2 := congrArg (fun z : He.AlD => z.2) (show obsX fa fn ex K = He.valD fn from c)
  rw [Bool.and_eq_true] at h1
  exact ⟨Prod.ext h1.1 h2, h1.2⟩
def obsXG (n : Nat) (fa : List He.Fa) (fn : List He.DefD) (ex : List Str) (g : Addr → Option Obj) : He.AlD := obsX fa fn ex (He.frG g (He.asD g n))
def hookX (n : Nat) (fa : List He.Fa) (fn : List He.DefD) (ex : List Str) : PySem.W.Hook where
  α := He.AlD
  obs := fun s => obsXG n fa fn ex s.heap.get?
  val := fun _ => He.valD fn
  says := fun _ h => ∃ K : PySem.W.Frag, K.In h ∧ SaysX fa fn ex K
  of := fun _ _ e => ⟨_, He.frG_in, e⟩
  keeps := fun _ _ _ ⟨K, hK, c⟩ k => ⟨K, PySem.W.Frag.In.keeps hK k, c⟩
theorem obsXG_eq {n : Nat} {fa : List He.Fa} {fn : List He.DefD} {ex : List Str} {g : Addr → Option Obj} {s : Shared} (h : ∀ a, g a = s.heap.get? a) : obsXG n fa fn ex g = (hookX n fa fn ex).obs s := by
  have e : g = s.heap.get? := funext h
  rw [e] <;> rfl
structure Dt where
  name : Str
  st : Stmt
  ps : List Str
  N : List Str
  b : Ss
def Dt.d (t : Dt) : He.DefD := ⟨(t.name, none), t.name, t.name, defArgs t.st, defBody t.st, defScope t.st, [], []⟩
def Dt.g (t : Dt) : List D → R D := runF t.ps.length t.N.length t.b
structure Lw where
  dts : List Dt
  fre : List Str
  ci : List (Str × Int)
  cstrs : List (Str × Str)
  exs : List Str
def Lw.gx (L : Lw) : Gx where
  N := []
  fns := L.dts.map Dt.name
  lim := 0
  cns := (L.ci.map fun p => (p.1, .int p.2)) ++ L.cstrs.map fun p => (p.1, .str p.2)
  fre := L.fre
  exs := L.exs
  ars := L.dts.map fun t => t.ps.length
  ise := true
def Lw.fa (L : Lw) : List He.Fa := (L.dts.map fun t => He.Fa.glo t.name) ++ (L.exs.map He.Fa.glo ++ (L.fre.map He.Fa.free ++ (L.ci.map (fun p => He.Fa.int p.1 p.2) ++ (L.cstrs.map (fun p => He.Fa.str p.1 p.2) ++ (L.exs.map He.Fa.exc ++ L.exs.flatMap fun x => L.exs.map fun y => He.Fa.exm x y (isSub x y))))))
def Lw.fn (L : Lw) : List He.DefD := L.dts.map Dt.d
def Lw.T (L : Lw) (j : Nat) : List D → R D := match L.dts[j]? with
  | some t => t.g
  | none => fun _ => .no
def fscB (N ps : List Str) (sc : Scope) : Bool := (match sc.kind with
  | .function => true
  | _ => false) && !sc.isCoroutine && !sc.isGenerator && decide N.Nodup && decide (N.take ps.length = ps) && decide (ps.length ≤ N.length) && (ps.all fun x => isOwn sc x) && sc.names.all fun y => match y.2 with
  | .free => false
  | _ => true
theorem fsc_ok {N ps : List Str} {sc : Scope} (h : fscB N ps sc = true) : FnScope N ps sc ∧ ps.length ≤ N.length := by
  unfold fscB at h
  simp only [Bool.and_eq_true, Bool.not_eq_true', decide_eq_true_eq] at h
  obtain ⟨⟨⟨⟨⟨⟨⟨h1, h2⟩, h3⟩, h4⟩, h5⟩, h6⟩, h7⟩, h8⟩ := h
  refine ⟨⟨?_, h2, h3, h4, h5, fun x hx => own_loc (List.all_eq_true.mp h7 x hx), fun y hy e => ?_⟩, h6⟩
  · split at h1
    · assumption
    · cases h1
  · have := List.all_eq_true.mp h8 y hy
    rw [e] at this
    cases this
def Dt.ok (G : Gx) (j : Nat) (t : Dt) : Bool := fscB t.N t.ps (defScope t.st) && chkSs { G with N := t.N, lim := j } ⟨defScope t.st, isOwn (defScope t.st), false⟩ t.b (defBody t.st)
def okAll (G : Gx) : Nat → List Dt → Bool
  | _, [] => true
  | j, t :: r => t.ok G j && okAll G (j + 1) r
theorem okAll_at {G : Gx} : ∀ {n : Nat} {l : List Dt} {j : Nat} {t : Dt}, okAll G n l = true → l[j]? = some t → t.ok G (n + j) = true
  | _, [], _, _, _, e => by simp at e
  | n, u :: r, 0, t, h, e => by
    simp only [okAll, Bool.and_eq_true] at h
    simp at e
    subst e
    exact h.1
  | n, u :: r, j + 1, t, h, e => by
    simp only [okAll, Bool.and_eq_true] at h
    have := okAll_at (j := j) (t := t) h.2 (by simpa using e)
    rw [Nat.add_assoc, Nat.add_comm 1 j] at this
    exact this
/-- of each def -/
def AllD (Pr : Dt → Prop) : List Dt → Prop
  | [] => True
  | t :: r => Pr t ∧ AllD Pr r
theorem AllD.at_ {Pr : Dt → Prop} : ∀ {l : List Dt} {j : Nat} {t : Dt}, AllD Pr l → l[j]? = some t → Pr t
  | [], _, _, _, e => by simp at e
  | u :: r, 0, t, h, e => by
    simp at e
    subst e
    exact h.1
  | u :: r, j + 1, t, h, e => AllD.at_ (j := j) h.2 (by simpa using e)
def Dt.binds (t : Dt) : Prop := ∀ (kV doc pm : Value) (an : Option Addr) (cdv ct : Value) (us : List Value), us.length = t.ps.length → bindArgs (PySem.W.fnOf t.name t.name (defArgs t.st) (defBody t.st) (defScope t.st) .none kV doc pm an cdv ct) ⟨us, []⟩ = pure (t.ps.zip us)
/-- the law's text, held against its terms -/
structure Lw.Ok (L : Lw) : Prop where
  chk : okAll L.gx 0 L.dts = true
  bnd : AllD Dt.binds L.dts
  okT : AllD (fun t => t.b.okT L.T) L.dts
section
variable {L : Lw} {K : PySem.W.Frag} {h : Heap} {mg : Str → Option Value}
theorem SaysD.mem {fa : List He.Fa} {fn : List He.DefD} (c : He.SaysD fa fn K) {f : He.Fa} (hf : f ∈ fa) : f.ok K = true := by
  obtain ⟨i, hi⟩ := List.getElem?_of_mem hf
  exact c.fact i hi
abbrev cvOf (K : PySem.W.Frag) (c : Str) : Value := .ref (He.ga K c)
theorem Lw.md (X : K.In h) (G : h.Ns mainGlobals mg) (c : He.SaysD L.fa L.fn K) (ci : isB K L.exs = true) (N : List Str) (j : Nat) : Md K mg (cvOf K) { L.gx with N := N, lim := j } where
  cns := fun p hp => by
    have hp : p ∈ (L.ci.map fun p => (p.1, PyData.int p.2)) ++ L.cstrs.map fun p => (p.1, PyData.str p.2) := hp
    rcases List.mem_append.mp hp with hp | hp
    · obtain ⟨q, hq, rfl⟩ := List.mem_map.mp hp
      obtain ⟨t, ht⟩ := He.int_ok (i := q.2) X G (SaysD.mem c (by
        unfold Lw.fa
        exact List.mem_append_right _ (List.mem_append_right _ (List.mem_append_right _ (List.mem_append_left _ (List.mem_map.mpr ⟨q, hq, rfl⟩))))))
      exact ⟨_, ht, ⟨t, rfl⟩⟩
    · obtain ⟨q, hq, rfl⟩ := List.mem_map.mp hp
      obtain ⟨t, ht⟩ := He.str_ok (z := q.2) X G (SaysD.mem c (by
        unfold Lw.fa
        exact List.mem_append_right _ (List.mem_append_right _ (List.mem_append_right _ (List.mem_append_right _ (List.mem_append_left _ (List.mem_map.mpr ⟨q, hq, rfl⟩)))))))
      exact ⟨_, ht, ⟨t, rfl⟩⟩
  fre := fun x hx => by
    have hx : x ∈ L.fre := by simpa [Lw.gx] using hx
    exact He.free_ok X G (SaysD.mem c (by
      unfold Lw.fa
      exact List.mem_append_right _ (List.mem_append_right _ (List.mem_append_left _ (List.mem_map.mpr ⟨x, hx, rfl⟩)))))
  exn := fun x hx => by
    have hx : x ∈ L.exs := by simpa [Lw.gx] using hx
    have h1 := He.glo_ok X G (SaysD.mem c (f := .glo x) (by
      unfold Lw.fa
      exact List.mem_append_right _ (List.mem_append_left _ (List.mem_map.mpr ⟨x, hx, rfl⟩))))
    obtain ⟨e1, e2, e3, e4⟩ := He.exc_ok (SaysD.mem c (f := .exc x) (by
      unfold Lw.fa
      exact List.mem_append_right _ (List.mem_append_right _ (List.mem_append_right _ (List.mem_append_right _ (List.mem_append_right _ (List.mem_append_left _ (List.mem_map.mpr ⟨x, hx, rfl⟩))))))))
    exact ⟨_, rfl, h1, e1, e2, e3, e4⟩
  exm := fun d x hd hx => by
    have hd : d ∈ L.exs := by simpa [Lw.gx] using hd
    have hx : x ∈ L.exs := by simpa [Lw.gx] using hx
    exact He.exm_ok (SaysD.mem c (f := .exm d x (isSub d x)) (by
      unfold Lw.fa
      exact List.mem_append_right _ (List.mem_append_right _ (List.mem_append_right _ (List.mem_append_right _ (List.mem_append_right _ (List.mem_append_right _ (List.mem_flatMap.mpr ⟨d, hd, List.mem_map.mpr ⟨x, hx, rfl⟩⟩))))))))
  ief := fun _ n x hn hx => by
    have hn : n ∈ L.exs := by simpa [Lw.gx] using hn
    have hx : x ∈ L.exs := by simpa [Lw.gx] using hx
    have q := List.all_eq_true.mp ci n hn
    rw [Bool.and_eq_true] at q
    have q2 := List.all_eq_true.mp q.2 x hx
    exact ⟨_, _, rfl, rfl, excB_ok q.1, of_decide_eq_true q2, He.glo_ok X G (SaysD.mem c (f := .glo x) (by
      unfold Lw.fa
      exact List.mem_append_right _ (List.mem_append_left _ (List.mem_map.mpr ⟨x, hx, rfl⟩))))⟩
theorem Lw.cal {P : Program} {w : World} (O : L.Ok) (X : K.In h) (G : h.Ns mainGlobals mg) (c : He.SaysD L.fa L.fn K) (ci : isB K L.exs = true) : ∀ (j : Nat) (t : Dt), L.dts[j]? = some t → ∃ fd, (∀ base : Heap, FnOk P w K mg base (L2.CX P w) (j + 1) (He.ga K t.name) fd t.ps (spF K (cvOf K) t.ps.length (L.T j))) ∧
    mg t.name = some (.ref (He.ga K t.name)) ∧ PySem.W.keepIn K (.ref (He.ga K t.name)) = true ∧ Binds K fd t.ps [] ∧ ∀ (s : Shared) (us : List Value), us.length = t.ps.length → BindsTo s fd ⟨us, []⟩ (t.ps.zip us) := by
  intro j
  induction j using Nat.strongRecOn with
  | ind j ih =>
    intro t ht
    obtain ⟨fd, F⟩ := c.def_ j (d := t.d) (by unfold Lw.fn; rw [List.getElem?_map, ht]; rfl)
    have F : FunD K t.name t.name (defArgs t.st) (defBody t.st) (defScope t.st) [] [] (He.ga K t.name) fd := F
    have hg := He.glo_ok X G (SaysD.mem c (f := .glo t.name) (by
      unfold Lw.fa
      exact List.mem_append_left _ (List.mem_map.mpr ⟨t, List.mem_of_getElem? ht, rfl⟩)))
    have hk := okAll_at O.chk ht
    rw [Nat.zero_add] at hk
    unfold Dt.ok at hk
    rw [Bool.and_eq_true] at hk
    obtain ⟨S, hl⟩ := fsc_ok hk.1
    have hT : L.T j = t.g := by unfold Lw.T; rw [ht]
    have hb := O.bnd.at_ ht
    refine ⟨fd, fun base => ?_, hg, F.kp, F.bindsN hb, F.bindsA hb⟩
    rw [hT]
    refine fn_ok (G := { L.gx with N := t.N, lim := j }) (T := L.T) F S hl hk.2 (O.okT.at_ ht) (L.md X G c ci t.N j) fun i hi x n hx hn => ?_
    have hx : (L.dts.map Dt.name)[i]? = some x := hx
    have hn : (L.dts.map fun t => t.ps.length)[i]? = some n := hn
    rw [List.getElem?_map] at hx hn
    cases hu : L.dts[i]? with
    | none => rw [hu] at hx; cases hx
    | some u =>
      rw [hu] at hx hn
      cases hx
      cases hn
      obtain ⟨fd', F', g', k', b', _⟩ := ih i hi u hu
      exact ⟨_, fd', u.ps, (F' base).mono (by have hi : i < j := hi; omega), g', k', b'⟩
theorem ints_rp {K : PySem.W.Frag} {F : Hp} : ∀ ns : List Int, RpAll K F (ns.map V.int) (ns.map PyData.int)
  | [] => .nil
  | n :: ns => .cons (.int n) (ints_rp ns)
end
/-- THE END: the law answers True at every script -/
theorem walk_law {l : PySem.W.OpenLaw} {n m : Nat} {q : Program} {loose : List Str} {XP : (Str → Option Value) → Heap → Prop} {d : DefRec} {L : Lw} (hn : l.most = some n) (hn2 : n ≤ sizeLine) (hdf : d.params.defaults = []) (hd : d.name = ("law" : Str)) (O : L.Ok)
    (j : Nat) (t : Dt) (x : Str) (ht : L.dts[j]? = some t) (hnm : t.name = ("law" : Str)) (hx : t.ps = [x]) (hr : Room (j + 1) callerA) (law : ∀ ns : List Int, ns.length ≤ n → t.g [.list (ns.map PyData.int)] = .ok (.bool true)) :
    PySem.W.WalkO q loose XP (hookX m L.fa L.fn L.exs).says l.row.toRowW d [] (fun f vs => PySem.call f vs) := by
  refine Att.attach_call hn hdf fun w s₀ s₁ mg mb fa o pm cd doc a vs ns G Y ho hdd hcd hmg hobj hints hlen hg => ?_
  obtain ⟨K, KX, c⟩ := Y
  obtain ⟨c, ci⟩ := c.d
  obtain ⟨fd, F, g, kp, b, bA⟩ := Lw.cal (P := l.prog) (w := w) O KX G.T.g c ci j t ht
  rw [hd, ← hnm, g] at hmg
  cases hmg
  refine law_call (fd := fd) (x := x) (k := j + 1) KX G.T.g G.T.b G.T.builtins G.T.nolimit hg hobj hints (Nat.le_trans hlen hn2) hr
    (sp := spF K (cvOf K) t.ps.length (L.T j)) (CX := L2.CX l.prog w) (fun base hb hns => ?_) (fun s u => ?_) (fun H hO hS => ?_) fun H e s' z => ?_
  · have := F base
    rw [hx] at this ⊢
    exact this
  · have := bA s [u] (by rw [hx]; rfl)
    rw [hx] at this
    exact this
  · have hT : L.T j = t.g := by unfold Lw.T; rw [ht]
    have hL : LsX K H a (ns.map V.int) := by
      rcases hS with hS | ⟨o', its, n', hk, hc, hdn, hdt, hz, rv⟩
      · exact .inl hS
      · have e := KX _ _ hk
        rw [hobj] at e
        cases e
        cases hdt
        refine .inr ⟨vs, _, hk, rv, ?_⟩
        rw [List.length_map]
        exact Nat.le_trans hlen hn2
    refine ⟨by rw [hx]; rfl, H, [.list (ns.map PyData.int)], Same.refl H, .cons (.lst hL (ints_rp ns)) .nil, ?_⟩
    rw [hT, law ns hlen]
    intro F' H' e v rv
    cases rv
    rfl
  · obtain ⟨_, _, _, _, _, _, _, _, _, _, _, _, z⟩ := z
    exact z
end Fp

set_option Elab.async false
set_option linter.all false
set_option maxRecDepth 100000
set_option maxHeartbeats 1000000
/-! Plain laws of the small language's meaning. -/
namespace Fp
open PySem
theorem lcGo_map {F : D → R (Option D)} {g : D → Option D} : ∀ {xs : List D}, (∀ x ∈ xs, F x = .ok (g x)) → lcGo F xs = .ok (xs.filterMap g)
  | [], _ => rfl
  | x :: xs, h => by
    have ih := lcGo_map (F := F) (g := g) (xs := xs) fun y hy => h y (List.mem_cons_of_mem _ hy)
    rw [lcGo, h x List.mem_cons_self, List.filterMap_cons]
    cases g x with
    | none => exact ih
    | some y => dsimp only; rw [ih]
theorem filterMap_some {α β : Type} (g : α → β) : ∀ xs : List α, xs.filterMap (fun x => some (g x)) = xs.map g
  | [] => rfl
  | x :: xs => by rw [List.filterMap_cons, filterMap_some g xs]; rfl
theorem boolsD_map {α : Type} (p : α → Bool) : ∀ xs : List α, boolsD (xs.map fun x => .bool (p x)) = .ok (xs.map p)
  | [] => rfl
  | x :: xs => by rw [List.map_cons, boolsD, boolsD_map p xs]; rfl
/-- [e for tg in it] -/
theorem ev_lc {own : List Nat} {tg : Tg} {it : It} {e : E} {env : Env} {xs : List D} {g : D → D} (hi : evIt it env = .ok xs) (hl : xs.length ≤ 16777216) (h : ∀ x ∈ xs, ∃ env', asg tg x (wipeE env own) = .ok env' ∧ evE e env' = .ok (g x)) :
    evE (.lc own tg it .nil e) env = .ok (.list (xs.map g)) := by
  rw [evE, hi, R.bind_ok]
  have hm := lcGo_map (xs := xs) (F := fun x => (asg tg x (wipeE env own)).bind fun env' => (evCs .nil env').bind fun k => if k = true then (evE e env').bind fun y => .ok (some y) else .ok none) (g := fun x => some (g x)) fun x hx => by
    obtain ⟨env', h1, h2⟩ := h x hx
    rw [h1, R.bind_ok, evCs, R.bind_ok, if_pos rfl, h2, R.bind_ok]
  rw [hm, R.bind_ok, filterMap_some, List.length_map, if_pos hl]
/-- all([e for tg in it]) -/
theorem ev_all {own : List Nat} {tg : Tg} {it : It} {e : E} {env : Env} {xs : List D} {p : D → Bool} (hi : evIt it env = .ok xs) (hl : xs.length ≤ 16777216) (h : ∀ x ∈ xs, ∃ env', asg tg x (wipeE env own) = .ok env' ∧ evE e env' = .ok (.bool (p x))) :
    evE (.blt .all (.cons (.lc own tg it .nil e) .nil)) env = .ok (.bool (xs.all p)) := by
  rw [evE, evEs, ev_lc (g := fun x => .bool (p x)) hi hl h, R.bind_ok, evEs, R.bind_ok, R.bind_ok, dBlt, boolsD_map, R.bind_ok, List.all_map]
  rfl
end Fp

set_option Elab.async false
set_option linter.all false
set_option maxRecDepth 100000
set_option maxHeartbeats 1000000
/-! Plain laws: how the terms are reckoned, step by step. -/
namespace Fp
open PySem L2
theorem run1 {np n : Nat} {b : Ss} {ds : List D} (h : ds.length = np) : runF np n b ds = (exSs b (ds.map .val ++ List.replicate (n - np) .un)).out := by rw [runF, if_pos h]
section
variable {env : Env} {a b c e : E} {x y z : D} {p q : Bool} {i j k : Int} {es : Es} {ds : List D} {r : Ss} {R1 : Fp.R D}
/-! ### data -/
theorem dEq_ok (hx : fine x = true) (hy : fine y = true) : dEq x y = .ok (PyData.eqv x y) := by unfold dEq; rw [hx, hy]; rfl
theorem dEq_int : dEq (.int i) (.int j) = .ok (decide (i = j)) := rfl
theorem dLt_int' : PySem.W.dataLt (.int i) (.int j) = decide (i < j) := by
  show PyProof.Rows.lexLt PyProof.Rows.itemOrd [.inl i] [.inl j] = _
  unfold PyProof.Rows.lexLt
  by_cases h : i < j
  · simp [PyProof.Rows.itemOrd, PyProof.Rows.itemLt, h]
  · by_cases h2 : i = j
    · subst h2; simp [PyProof.Rows.itemOrd, PyProof.Rows.itemLt, PyProof.Rows.lexLt]
    · simp [PyProof.Rows.itemOrd, PyProof.Rows.itemLt, h, h2, PyProof.Rows.lexLt]
theorem dLt_int : dLt (.int i) (.int j) = .ok (decide (i < j)) := by
  show R.ok (PySem.W.dataLt (.int i) (.int j)) = _
  rw [dLt_int']
theorem dLe_int : dLe (.int i) (.int j) = .ok (decide (i ≤ j)) := by
  show R.ok (!PySem.W.dataLt (.int j) (.int i)) = _
  rw [dLt_int']
  by_cases h : j < i
  · rw [decide_eq_true h, decide_eq_false (by omega)]; rfl
  · rw [decide_eq_false h, decide_eq_true (by omega)]; rfl
/-! ### terms -/
theorem ev_isi (h : evE a env = .ok x) (t : Ty) : evE (.isi a t) env = .ok (.bool (isTy t x)) := by rw [evE, h]; rfl
theorem ev_and (h : evE a env = .ok (.bool p)) (k : p = true → evE b env = .ok (.bool q)) : evE (.and a b) env = .ok (.bool (p && q)) := by
  rw [evE, h, R.bind_ok, asB, R.bind_ok]
  cases p with
  | true => rw [if_pos rfl, k rfl]; rfl
  | false => rfl
theorem ev_or (h : evE a env = .ok (.bool p)) (k : p = false → evE b env = .ok (.bool q)) : evE (.or a b) env = .ok (.bool (p || q)) := by
  rw [evE, h, R.bind_ok, asB, R.bind_ok]
  cases p with
  | true => rfl
  | false => rw [if_neg Bool.false_ne_true, k rfl]; rfl
theorem ev_not (h : evE a env = .ok (.bool p)) : evE (.not a) env = .ok (.bool (!p)) := by rw [evE, h]; rfl
theorem ev_chn (h1 : evE a env = .ok (.int i)) (h2 : evE b env = .ok (.int j)) (h3 : evE c env = .ok (.int k)) : evE (.chn a b c) env = .ok (.bool (decide (i ≤ j) && decide (j ≤ k))) := by
  rw [evE, h1, R.bind_ok, h2, R.bind_ok, dLe_int, R.bind_ok]
  by_cases h : i ≤ j
  · rw [decide_eq_true h, if_pos rfl, h3, R.bind_ok, dLe_int]; rfl
  · rw [decide_eq_false h]; rfl
theorem ev_cmp {o : Cop} (h1 : evE a env = .ok x) (h2 : evE b env = .ok y) (h3 : dCmp o x y = .ok p) : evE (.cmp o a b) env = .ok (.bool p) := by
  rw [evE, h1, R.bind_ok, h2, R.bind_ok, h3]; rfl
theorem ev_idx (h1 : evE a env = .ok x) (h2 : evE b env = .ok y) : evE (.idx a b) env = dIdx x y := by rw [evE, h1, R.bind_ok, h2]; rfl
theorem ev_bin {o : Bop} (h1 : evE a env = .ok x) (h2 : evE b env = .ok y) : evE (.bin o a b) env = dBin o x y := by rw [evE, h1, R.bind_ok, h2]; rfl
theorem ev_call {j : Nat} {g : List D → Fp.R D} (h : evEs es env = .ok ds) : evE (.call j g es) env = g ds := by rw [evE, h]; rfl
theorem ev_blt {bl : Blt} (h : evEs es env = .ok ds) : evE (.blt bl es) env = dBlt bl ds := by rw [evE, h]; rfl
theorem evs_nil : evEs .nil env = .ok [] := by rw [evEs]
theorem evs_cons (h : evE e env = .ok x) (k : evEs es env = .ok ds) : evEs (.cons e es) env = .ok (x :: ds) := by rw [evEs, h, R.bind_ok, k]; rfl
theorem evs1 (h : evE e env = .ok x) : evEs (.cons e .nil) env = .ok [x] := evs_cons h evs_nil
theorem ev_tup (h : evEs es env = .ok ds) (hl : ds.length ≤ 16777216) : evE (.tup es) env = .ok (.tuple ds) := by rw [evE, h, R.bind_ok, if_pos hl]
theorem ev_lst (h : evEs es env = .ok ds) (hl : ds.length ≤ 16777216) : evE (.lst es) env = .ok (.list ds) := by rw [evE, h, R.bind_ok, if_pos hl]
theorem ev_ite (h : evE c env = .ok (.bool p)) : evE (.ite c a b) env = if p = true then evE a env else evE b env := by rw [evE, h]; rfl
theorem ev_lenT {xs : List D} (h : evE a env = .ok (.tuple xs)) : evE (.blt .len (.cons a .nil)) env = .ok (.int xs.length) := by rw [ev_blt (evs1 h)]; rfl
theorem ev_lenL {xs : List D} (h : evE a env = .ok (.list xs)) : evE (.blt .len (.cons a .nil)) env = .ok (.int xs.length) := by rw [ev_blt (evs1 h)]; rfl
theorem ev_lenS {z : Str} (h : evE a env = .ok (.str z)) (hz : z.length ≤ 16777216) : evE (.blt .len (.cons a .nil)) env = .ok (.int z.length) := by
  rw [ev_blt (evs1 h)]; simp [dBlt, hz]
/-! ### statements -/
theorem ret1 : (exSs (.cons (.ret e) r) env).out = evE e env := by
  rw [exSs, exS]
  cases evE e env <;> rfl
theorem ex_ret (h : evE e env = .ok x) : exSs (.cons (.ret e) r) env = .rt x := by rw [exSs, exS, h]; rfl
theorem ex_ife {s t : Ss} (h : evE c env = .ok (.bool p)) : exSs (.cons (.ife c s t) r) env = (if p = true then exSs s env else exSs t env).andThen (exSs r) := by
  rw [exSs, exS, h]
  cases p <;> rfl
theorem ex_nil : exSs .nil env = .nx env := by rw [exSs]
/-- if c: return a -/
theorem ex_ifret (h : evE c env = .ok (.bool p)) (ha : p = true → evE a env = .ok x) : exSs (.cons (.ife c (.cons (.ret a) .nil) .nil) r) env = if p = true then .rt x else exSs r env := by
  rw [ex_ife h]
  cases p with
  | true => rw [if_pos rfl, if_pos rfl, ex_ret (ha rfl)]; rfl
  | false => rw [if_neg Bool.false_ne_true, if_neg Bool.false_ne_true, ex_nil]; rfl
theorem ex_asn {i : Nat} (h : evE e env = .ok x) (hi : i < env.length) : exSs (.cons (.asn (.nm i) e) r) env = exSs r (env.set i (.val x)) := by
  rw [exSs, exS, h, ofR, asg, if_pos hi]; rfl
theorem ex_asnT {tg : Tg} {env' : Env} (h : evE e env = .ok x) (ha : asg tg x env = .ok env') : exSs (.cons (.asn tg e) r) env = exSs r env' := by
  rw [exSs, exS, h, ofR, ha]; rfl
end
/-! ### sane data -/
mutual
def sz : D → Bool
  | .str z => decide (z.length ≤ 1000000)
  | .list xs => decide (xs.length ≤ 1000000) && szAll xs
  | .tuple xs => decide (xs.length ≤ 1000000) && szAll xs
  | .dict _ => false
  | _ => true
def szAll : List D → Bool
  | [] => true
  | x :: xs => sz x && szAll xs
end
theorem szAll_mem : ∀ {xs : List D} {x : D}, szAll xs = true → x ∈ xs → sz x = true
  | y :: xs, x, h, hx => by
    simp only [szAll, Bool.and_eq_true] at h
    rcases List.mem_cons.mp hx with rfl | hx
    · exact h.1
    · exact szAll_mem h.2 hx
  | [], _, _, hx => by cases hx
theorem sz_tuple {xs : List D} (h : sz (.tuple xs) = true) : xs.length ≤ 1000000 ∧ szAll xs = true := by simpa [sz] using h
theorem ok_of {α : Type} {x : Fp.R α} {v w : α} (h : x = .ok v) (e : v = w) : x = .ok w := by rw [h, e]
theorem ev_slot {env : Env} {i : Nat} {d : D} (h : env[i]? = some (.val d)) : evE (.slot i) env = .ok d := by rw [evE, h]
theorem ev_borv {env : Env} {i : Nat} {d : D} (h : env[i]? = some (.val d)) : evE (.bor i) env = .ok d := by rw [evE, h]
theorem ev_boro {env : Env} {i : Nat} {d : List D} (h : env[i]? = some (.own (.list d))) : evE (.bor i) env = .ok (.list d) := by rw [evE, h]
theorem ev_cst {env : Env} {d : D} : evE (.cst d) env = .ok d := by rw [evE]
theorem ev_glo {env : Env} {x : Str} {d : D} : evE (.glo x d) env = .ok d := by rw [evE]
theorem ev_isk {env : Env} {a : E} {x : D} {n b : Bool} {k : Kc} (h : evE a env = .ok x) (h2 : isK k x = .ok b) : evE (.isk n a k) env = .ok (.bool (n != b)) := by rw [evE, h, R.bind_ok, h2]; rfl
theorem ev_neg {env : Env} {a : E} {i : Int} (h : evE a env = .ok (.int i)) : evE (.neg a) env = .ok (.int (-i)) := by rw [evE, h]; rfl
theorem ev_sli {env : Env} {a : E} {x : D} {lo hi : Eo} {l h : Option Int} (h1 : evE a env = .ok x) (h2 : evEo lo env = .ok l) (h3 : evEo hi env = .ok h) : evE (.sli a lo hi) env = dSli x l h := by rw [evE, h1, R.bind_ok, h2, R.bind_ok, h3]; rfl
theorem evo_non {env : Env} : evEo .non env = .ok none := by rw [evEo]
theorem evo_som {env : Env} {e : E} {i : Int} (h : evE e env = .ok (.int i)) : evEo (.som e) env = .ok (some i) := by rw [evEo, h]; rfl
theorem ev_rev {env : Env} {a : E} {x : D} (h : evE a env = .ok x) : evE (.rev a) env = dRev x := by rw [evE, h]; rfl
theorem dne_ok {x y : D} {k : Bool} (h : dCmp .eq x y = .ok k) : dCmp .ne x y = .ok (!k) := by
  have h : dEq x y = .ok k := h
  rw [dCmp, h]; rfl
theorem dnotin_ok {x y : D} {k : Bool} (h : dCmp .isin x y = .ok k) : dCmp .notin x y = .ok (!k) := by
  have h : dIn x y = .ok k := h
  rw [dCmp, h]; rfl
theorem it_dat {env : Env} {e : E} {x : D} {xs : List D} (h : evE e env = .ok x) (k : itemsD x = .ok xs) : evIt (.dat e) env = .ok xs := by rw [evIt, h]; exact k
theorem it_zip {env : Env} {a b : E} {x y : D} {xs : List D} (h : evE a env = .ok x) (h2 : evE b env = .ok y) (k : zipR x y = .ok xs) : evIt (.zip a b) env = .ok xs := by rw [evIt, h, R.bind_ok, h2]; exact k
theorem it_enu {env : Env} {a : E} {x : D} {xs : List D} (h : evE a env = .ok x) (k : sq x = .ok xs) : evIt (.enu a) env = .ok (enumD 0 xs) := by rw [evIt, h, R.bind_ok, k]; rfl
theorem it_rg1 {env : Env} {a : E} {j : Int} (h : evE a env = .ok (.int j)) (h0 : 0 ≤ j) (h1 : j < 2 ^ 62) : evIt (.rg1 a) env = .ok (rangeD 0 j.toNat) := by
  rw [evIt, h, R.bind_ok, rng, if_pos (by simp; omega), Int.sub_zero]
theorem it_rg2 {env : Env} {a b : E} {i j : Int} (h : evE a env = .ok (.int i)) (h2 : evE b env = .ok (.int j)) (h0 : -(2 ^ 62) ≤ i) (h1 : i < 2 ^ 62) (h3 : -(2 ^ 62) ≤ j) (h4 : j < 2 ^ 62) : evIt (.rg2 a b) env = .ok (rangeD i (j - i).toNat) := by
  rw [evIt, h, R.bind_ok, h2, R.bind_ok, rng, if_pos (by simp; omega)]
/-- [e for tg in it if c] -/
theorem ev_lcf {own : List Nat} {tg : Tg} {it : It} {c e : E} {env : Env} {xs : List D} {p : D → Bool} {g : D → D} (hi : evIt it env = .ok xs) (hl : xs.length ≤ 16777216)
    (h : ∀ x ∈ xs, ∃ env', asg tg x (wipeE env own) = .ok env' ∧ evE c env' = .ok (.bool (p x)) ∧ (p x = true → evE e env' = .ok (g x))) : evE (.lc own tg it (.one c) e) env = .ok (.list ((xs.filter p).map g)) := by
  rw [evE, hi, R.bind_ok]
  have hm := lcGo_map (xs := xs) (F := fun x => (asg tg x (wipeE env own)).bind fun env' => (evCs (.one c) env').bind fun k => if k = true then (evE e env').bind fun y => .ok (some y) else .ok none) (g := fun x => if p x = true then some (g x) else none) fun x hx => by
    obtain ⟨env', h1, h2, h3⟩ := h x hx
    rw [h1, R.bind_ok, evCs, h2, R.bind_ok, asB, R.bind_ok]
    by_cases hp : p x = true
    · rw [if_pos hp, if_pos hp, h3 hp]; rfl
    · rw [if_neg hp, if_neg hp]
  have e2 : xs.filterMap (fun x => if p x = true then some (g x) else none) = (xs.filter p).map g := by
    clear hm h hl hi
    induction xs with
    | nil => rfl
    | cons x xs ih =>
      rw [List.filterMap_cons, List.filter_cons]
      by_cases hp : p x = true
      · rw [if_pos hp, if_pos hp, List.map_cons, ih]
      · rw [if_neg hp, if_neg hp, ih]
  rw [hm, R.bind_ok, e2, if_pos (by rw [List.length_map]; exact Nat.le_trans (List.length_filter_le _ _) hl)]
theorem ev_idx' {env : Env} {a b : E} {x y v : D} (h1 : evE a env = .ok x) (h2 : evE b env = .ok y) (h3 : dIdx x y = .ok v) : evE (.idx a b) env = .ok v := (ev_idx h1 h2).trans h3
theorem ev_bin' {env : Env} {a b : E} {x y v : D} {o : Bop} (h1 : evE a env = .ok x) (h2 : evE b env = .ok y) (h3 : dBin o x y = .ok v) : evE (.bin o a b) env = .ok v := (ev_bin h1 h2).trans h3
theorem ev_sli' {env : Env} {a : E} {x v : D} {lo hi : Eo} {l h : Option Int} (h1 : evE a env = .ok x) (h2 : evEo lo env = .ok l) (h3 : evEo hi env = .ok h) (h4 : dSli x l h = .ok v) : evE (.sli a lo hi) env = .ok v := (ev_sli h1 h2 h3).trans h4
theorem ev_rev' {env : Env} {a : E} {x v : D} (h : evE a env = .ok x) (h2 : dRev x = .ok v) : evE (.rev a) env = .ok v := (ev_rev h).trans h2
theorem ev_call' {env : Env} {es : Es} {ds : List D} {v : D} {j : Nat} {g : List D → Fp.R D} (h : evEs es env = .ok ds) (h2 : g ds = .ok v) : evE (.call j g es) env = .ok v := (ev_call h).trans h2
theorem ev_blt' {env : Env} {es : Es} {ds : List D} {v : D} {bl : Blt} (h : evEs es env = .ok ds) (h2 : dBlt bl ds = .ok v) : evE (.blt bl es) env = .ok v := (ev_blt h).trans h2
theorem atI_zero {α : Type} (x : α) (r : List α) : atI (x :: r) 0 = some x := by
  unfold atI ixN
  rw [if_pos (by omega), if_pos (by simp)]
  rfl
theorem atI_one {α : Type} (x y : α) (r : List α) : atI (x :: y :: r) 1 = some y := by
  unfold atI ixN
  rw [if_pos (by omega), if_pos (by simp; omega)]
  rfl
theorem atI_nat {α : Type} {xs : List α} {n : Nat} {x : α} (h : xs[n]? = some x) : atI xs (n : Int) = some x := by
  have hl := (List.getElem?_eq_some_iff.mp h).1
  unfold atI ixN
  rw [if_pos (by omega), if_pos (by omega)]
  simpa using h
theorem dIdxT0 {x : D} {r : List D} : dIdx (.tuple (x :: r)) (.int 0) = .ok x := by rw [dIdx, atI_zero]; rfl
theorem dIdxL0 {x : D} {r : List D} : dIdx (.list (x :: r)) (.int 0) = .ok x := by rw [dIdx, atI_zero]; rfl
theorem dIdxT1 {x y : D} {r : List D} : dIdx (.tuple (x :: y :: r)) (.int 1) = .ok y := by rw [dIdx, atI_one]; rfl
theorem dIdxL1 {x y : D} {r : List D} : dIdx (.list (x :: y :: r)) (.int 1) = .ok y := by rw [dIdx, atI_one]; rfl
/-! ### what the program's looks say -/
def SMALL : Str := "abcdefghijklmnopqrstuvwxyz"
def isName : D → Bool
  | .str z => decide (1 ≤ z.length) && decide (z.length ≤ 4) && z.cps.toList.all fun c => decide (c ∈ SMALL.cps.toList)
  | _ => false
def isWhole (d : D) (i j : Int) : Bool := d.isInt && (!d.isBool && match d with
  | .int k => decide (i ≤ k) && decide (k ≤ j)
  | _ => false)
def isPair : D → Bool
  | .tuple [x, _] => isName x
  | _ => false
def fstD : D → D
  | .tuple (x :: _) => x
  | _ => .none
def sndD : D → D
  | .tuple (_ :: y :: _) => y
  | _ => .none
/-- each below the next -/
def risD : List D → Bool
  | x :: y :: r => PySem.W.dataLt x y && risD (y :: r)
  | _ => true
def arePipes : D → Bool
  | .tuple xs => decide (1 ≤ xs.length) && decide (xs.length ≤ 6) && xs.all isPair && (xs.all (fun p => isWhole (sndD p) 1 4) && risD (xs.map fstD))
  | _ => false
def inD (x : D) (xs : List D) : Bool := xs.any fun z => PyData.eqv z x
def rowGo (names xs : List D) : Nat → List D → Bool
  | _, [] => true
  | i, x :: r => (isName x && (inD x names && !inD x (xs.take i))) && rowGo names xs (i + 1) r
def isRow (names : List D) : D → Bool
  | .tuple xs => decide (1 ≤ xs.length) && decide (xs.length ≤ 4) && rowGo names xs 0 xs
  | _ => false
def isNet : D → Bool
  | .tuple [.tuple ps, .tuple ws] => arePipes (.tuple ps) && (decide (1 ≤ ws.length) && decide (ws.length ≤ 8) && ws.all (fun w => isPair w && isRow (ps.map fstD) (sndD w)) && risD (ws.map fstD))
  | _ => false
end Fp

set_option Elab.async false
set_option linter.all false
set_option maxRecDepth 100000
namespace Fp
open PySem
/-- _law_drawn: 0 _law_script, 1 _law_k, 2 _law_many, 3 _law_cell, 4 _law_turn, 5 _law_rest -/
def B__law_drawn : Ss := (.cons (.asn (.nm 3) (.bin .mul (.cst (.int 7)) (.slot 1)))
 (.cons (.ife (.cmp .ne (.slot 0) (.lst .nil)) (.cons (.asn (.nm 3) (.idx (.slot 0) (.bin .mod (.slot 1) (.blt .len (.cons (.slot 0) .nil)))))
 (.cons (.asn (.nm 4) (.bin .fdiv (.slot 1) (.blt .len (.cons (.slot 0) .nil))))
 (.cons (.ife (.and (.cmp .ge (.slot 3) (.bin .pow (.cst (.int 10)) (.cst (.int 18)))) (.cmp .lt (.slot 4) (.cst (.int 60)))) (.cons (.asn (.nm 5) (.bin .fdiv (.slot 3) (.bin .pow (.cst (.int 10)) (.cst (.int 18)))))
 (.cons (.whl (.and (.cmp .gt (.slot 5) (.cst (.int 0))) (.cmp .gt (.slot 4) (.cst (.int 0)))) (.cons (.asn (.nm 5) (.bin .fdiv (.slot 5) (.cst (.int 1000000))))
 (.cons (.asn (.nm 4) (.bin .sub (.slot 4) (.cst (.int 1))))
 .nil)))
 (.cons (.ife (.cmp .gt (.slot 5) (.cst (.int 0))) (.cons (.ret (.bin .mod (.bin .mod (.slot 5) (.cst (.int 1000000))) (.slot 2)))
 .nil) .nil)
 .nil))) .nil)
 (.cons (.asn (.nm 3) (.bin .add (.slot 3) (.bin .mul (.cst (.int 6553)) (.bin .fdiv (.slot 1) (.blt .len (.cons (.slot 0) .nil))))))
 .nil)))) .nil)
 (.cons (.asn (.nm 3) (.bin .mod (.bin .add (.bin .mul (.bin .mod (.slot 3) (.cst (.int 2147483563))) (.cst (.int 69069))) (.bin .mul (.cst (.int 104723)) (.bin .add (.slot 1) (.cst (.int 1))))) (.cst (.int 2147483563))))
 (.cons (.asn (.nm 3) (.bin .mod (.bin .add (.bin .mul (.slot 3) (.slot 3)) (.bin .fdiv (.slot 3) (.cst (.int 3)))) (.cst (.int 2147483399))))
 (.cons (.ret (.bin .mod (.bin .fdiv (.bin .mod (.bin .add (.bin .mul (.slot 3) (.slot 3)) (.bin .fdiv (.slot 3) (.cst (.int 7)))) (.cst (.int 2147483647))) (.cst (.int 11))) (.slot 2)))
 .nil)))))
/-- _law_net: 0 _law_script, 1 _law_at, 2 _law_pipes, 3 _law_k, 4 _law_ways, 5 _law_left, 6 _law_row, 7 _law_pipe, 8 _law_n -/
def B__law_net (j__law_drawn : Nat) (g__law_drawn : List D → R D) : Ss := (.cons (.own 2 (.lst .nil))
 (.cons (.for (.nm 3) (.rg1 (.bin .add (.cst (.int 1)) (.call j__law_drawn g__law_drawn (.cons (.slot 0) (.cons (.slot 1) (.cons (.cst (.int 4)) .nil)))))) (.cons (.app 2 (.tup (.cons (.idx (.cst (.str "pqrs")) (.slot 3)) (.cons (.bin .add (.cst (.int 1)) (.call j__law_drawn g__law_drawn (.cons (.slot 0) (.cons (.bin .add (.bin .add (.slot 1) (.cst (.int 1))) (.slot 3)) (.cons (.cst (.int 3)) .nil))))) .nil))))
 .nil))
 (.cons (.own 4 (.lst .nil))
 (.cons (.for (.nm 3) (.rg1 (.bin .add (.cst (.int 1)) (.call j__law_drawn g__law_drawn (.cons (.slot 0) (.cons (.bin .add (.slot 1) (.cst (.int 5))) (.cons (.cst (.int 4)) .nil)))))) (.cons (.par (.cons 5 true (.lc [7] (.nm 7) (.dat (.bor 2)) .nil (.idx (.slot 7) (.cst (.int 0)))) (.cons 6 true (.lst .nil) .nil)))
 (.cons (.for (.nm 8) (.rg1 (.bin .add (.cst (.int 1)) (.call j__law_drawn g__law_drawn (.cons (.slot 0) (.cons (.bin .add (.bin .add (.slot 1) (.cst (.int 6))) (.bin .mul (.cst (.int 4)) (.slot 3))) (.cons (.blt .min2 (.cons (.cst (.int 3)) (.cons (.blt .len (.cons (.bor 2) .nil)) .nil))) .nil)))))) (.cons (.appop 6 5 (.call j__law_drawn g__law_drawn (.cons (.slot 0) (.cons (.bin .add (.bin .add (.bin .add (.slot 1) (.cst (.int 7))) (.bin .mul (.cst (.int 4)) (.slot 3))) (.slot 8)) (.cons (.blt .len (.cons (.bor 5) .nil)) .nil)))))
 .nil))
 (.cons (.app 4 (.tup (.cons (.idx (.cst (.str "abcd")) (.slot 3)) (.cons (.blt .tuple (.cons (.bor 6) .nil)) .nil))))
 .nil))))
 (.cons (.ret (.tup (.cons (.blt .tuple (.cons (.bor 2) .nil)) (.cons (.blt .tuple (.cons (.bor 4) .nil)) .nil))))
 .nil)))))
/-- _law_state: 0 _law_script, 1 _law_at, 2 _law_net_here, 3 _law_rows, 4 _law_k, 5 _law_name, 6 _law_length, 7 _law_n -/
def B__law_state (j__law_drawn : Nat) (g__law_drawn : List D → R D) : Ss := (.cons (.par (.cons 3 true (.lst .nil) (.cons 4 false (.cst (.int 0)) .nil)))
 (.cons (.for (.t2 (.nm 5) (.nm 6)) (.dat (.idx (.slot 2) (.cst (.int 0)))) (.cons (.app 3 (.blt .tuple (.cons (.lc [7] (.nm 7) (.rg1 (.slot 6)) .nil (.idx (.lst (.cons (.cst (.str "x")) (.cons (.cst (.str "y")) (.cons (.cst (.str "z")) (.cons (.cst (.str "oil")) .nil))))) (.call j__law_drawn g__law_drawn (.cons (.slot 0) (.cons (.bin .add (.bin .add (.slot 1) (.slot 4)) (.slot 7)) (.cons (.cst (.int 4)) .nil)))))) .nil)))
 (.cons (.asn (.nm 4) (.bin .add (.slot 4) (.slot 6)))
 .nil)))
 (.cons (.ret (.blt .tuple (.cons (.bor 3) .nil)))
 .nil)))
/-- _law_bad: 0 _law_net_here, 1 _law_pipes, 2 _law_ways, 3 _law_name, 4 _law_length, 5 _law_found, 6 _law_some, 7 _law_bad_here, 8 _law_row, 9 _law_one -/
def B__law_bad : Ss := (.cons (.asn (.t2 (.nm 1) (.nm 2)) (.slot 0))
 (.cons (.asn (.t2 (.nm 3) (.nm 4)) (.idx (.slot 1) (.cst (.int 0))))
 (.cons (.own 5 (.lst (.cons (.cst .none) (.cons (.tup .nil) (.cons (.tup (.cons (.slot 1) .nil)) (.cons (.bin .add (.slot 0) (.tup (.cons (.cst (.int 0)) .nil))) (.cons (.blt .list (.cons (.slot 0) .nil)) (.cons (.tup (.cons (.blt .list (.cons (.slot 1) .nil)) (.cons (.slot 2) .nil))) .nil))))))))
 (.cons (.own 5 (.bin .add (.bor 5) (.lst (.cons (.tup (.cons (.slot 1) (.cons (.blt .list (.cons (.slot 2) .nil)) .nil))) (.cons (.tup (.cons (.tup .nil) (.cons (.slot 2) .nil))) (.cons (.tup (.cons (.slot 1) (.cons (.tup .nil) .nil))) (.cons (.tup (.cons (.bin .mul (.rev (.slot 1)) (.cst (.int 2))) (.cons (.slot 2) .nil))) .nil)))))))
 (.cons (.asn (.nm 6) (.lst (.cons (.tup (.cons (.slot 3) (.cons (.cst (.int 0)) .nil))) (.cons (.tup (.cons (.slot 3) (.cons (.cst (.int 5)) .nil))) (.cons (.tup (.cons (.slot 3) (.cons (.cst (.bool true)) .nil))) (.cons (.tup (.cons (.slot 3) (.cons (.cst (.str "1")) .nil))) (.cons (.tup (.cons (.slot 3) .nil)) .nil)))))))
 (.cons (.for (.nm 7) (.dat (.bin .add (.slot 6) (.lst (.cons (.tup (.cons (.cst (.str "")) (.cons (.cst (.int 1)) .nil))) (.cons (.tup (.cons (.cst (.str "P")) (.cons (.cst (.int 1)) .nil))) (.cons (.tup (.cons (.cst (.str "abcde")) (.cons (.cst (.int 1)) .nil))) (.cons (.tup (.cons (.cst (.int 7)) (.cons (.cst (.int 1)) .nil))) (.cons (.lst (.cons (.slot 3) (.cons (.cst (.int 1)) .nil))) .nil)))))))) (.cons (.app 5 (.tup (.cons (.bin .add (.tup (.cons (.slot 7) .nil)) (.sli (.slot 1) (.som (.cst (.int 1))) .non)) (.cons (.slot 2) .nil))))
 .nil))
 (.cons (.for (.nm 8) (.dat (.tup (.cons (.tup .nil) (.cons (.tup (.cons (.slot 3) (.cons (.slot 3) .nil))) (.cons (.tup (.cons (.cst (.str "zz")) .nil)) (.cons (.lst (.cons (.slot 3) .nil)) (.cons (.cst .none) (.cons (.tup (.cons (.cst .none) .nil)) (.cons (.slot 3) (.cons (.blt .tuple (.cons (.cst (.str "pqrstu")) .nil)) .nil)))))))))) (.cons (.app 5 (.tup (.cons (.slot 1) (.cons (.bin .add (.sli (.slot 2) .non (.som (.neg (.cst (.int 1))))) (.tup (.cons (.tup (.cons (.idx (.idx (.slot 2) (.neg (.cst (.int 1)))) (.cst (.int 0))) (.cons (.slot 8) .nil))) .nil))) .nil))))
 .nil))
 (.cons (.own 5 (.bin .add (.bor 5) (.lst (.cons (.tup (.cons (.slot 1) (.cons (.tup (.cons (.tup (.cons (.cst (.str "a")) (.cons (.tup (.cons (.slot 3) .nil)) .nil))) (.cons (.tup (.cons (.cst (.str "a")) (.cons (.tup (.cons (.slot 3) .nil)) .nil))) .nil))) .nil))) .nil))))
 (.cons (.own 5 (.bin .add (.bor 5) (.lst (.cons (.tup (.cons (.slot 1) (.cons (.tup (.cons (.tup (.cons (.cst (.str "b")) (.cons (.tup (.cons (.slot 3) .nil)) .nil))) (.cons (.tup (.cons (.cst (.str "a")) (.cons (.tup (.cons (.slot 3) .nil)) .nil))) .nil))) .nil))) (.cons (.tup (.cons (.slot 1) (.cons (.tup (.cons (.tup (.cons (.cst (.str "A")) (.cons (.tup (.cons (.slot 3) .nil)) .nil))) .nil)) .nil))) .nil)))))
 (.cons (.app 5 (.tup (.cons (.slot 1) (.cons (.blt .tuple (.cons (.lc [9] (.nm 9) (.dat (.cst (.str "abcdefghi"))) .nil (.tup (.cons (.slot 9) (.cons (.tup (.cons (.slot 3) .nil)) .nil)))) .nil)) .nil))))
 (.cons (.ret (.bin .add (.bor 5) (.lst (.cons (.tup (.cons (.blt .tuple (.cons (.lc [9] (.nm 9) (.dat (.cst (.str "abcdefg"))) .nil (.tup (.cons (.slot 9) (.cons (.cst (.int 1)) .nil)))) .nil)) (.cons (.tup (.cons (.tup (.cons (.cst (.str "a")) (.cons (.tup (.cons (.cst (.str "a")) .nil)) .nil))) .nil)) .nil))) .nil))))
 .nil)))))))))))
/-- is_rising: 0 things, 1 one, 2 other -/
def B_is_rising : Ss := (.cons (.ret (.blt .all (.cons (.lc [1, 2] (.t2 (.nm 1) (.nm 2)) (.zip (.slot 0) (.sli (.slot 0) (.som (.cst (.int 1))) .non)) .nil (.cmp .lt (.slot 1) (.slot 2))) .nil)))
 .nil)
/-- is_whole: 0 thing, 1 least, 2 most -/
def B_is_whole : Ss := (.cons (.ret (.and (.isi (.slot 0) .int) (.and (.not (.isi (.slot 0) .bool)) (.chn (.slot 1) (.slot 0) (.slot 2)))))
 .nil)
/-- is_name: 0 thing, 1 sign -/
def B_is_name : Ss := (.cons (.ret (.and (.isi (.slot 0) .str) (.and (.chn (.cst (.int 1)) (.blt .len (.cons (.slot 0) .nil)) (.glo "LONGEST" (.int 4))) (.blt .all (.cons (.lc [1] (.nm 1) (.dat (.slot 0)) .nil (.cmp .isin (.slot 1) (.glo "SMALL" (.str "abcdefghijklmnopqrstuvwxyz")))) .nil)))))
 .nil)
/-- is_pair: 0 thing -/
def B_is_pair (j_is_name : Nat) (g_is_name : List D → R D) : Ss := (.cons (.ret (.and (.isi (.slot 0) .tuple) (.and (.cmp .eq (.blt .len (.cons (.slot 0) .nil)) (.cst (.int 2))) (.call j_is_name g_is_name (.cons (.idx (.slot 0) (.cst (.int 0))) .nil)))))
 .nil)
/-- are_pipes: 0 thing, 1 pipe -/
def B_are_pipes (j_is_pair : Nat) (g_is_pair : List D → R D) (j_is_rising : Nat) (g_is_rising : List D → R D) (j_is_whole : Nat) (g_is_whole : List D → R D) : Ss := (.cons (.ife (.or (.not (.isi (.slot 0) .tuple)) (.or (.not (.chn (.cst (.int 1)) (.blt .len (.cons (.slot 0) .nil)) (.glo "MOST_PIPES" (.int 6)))) (.not (.blt .all (.cons (.lc [1] (.nm 1) (.dat (.slot 0)) .nil (.call j_is_pair g_is_pair (.cons (.slot 1) .nil))) .nil))))) (.cons (.ret (.cst (.bool false)))
 .nil) .nil)
 (.cons (.ret (.and (.blt .all (.cons (.lc [1] (.nm 1) (.dat (.slot 0)) .nil (.call j_is_whole g_is_whole (.cons (.idx (.slot 1) (.cst (.int 1))) (.cons (.cst (.int 1)) (.cons (.glo "MOST_LENGTH" (.int 4)) .nil))))) .nil)) (.call j_is_rising g_is_rising (.cons (.lc [1] (.nm 1) (.dat (.slot 0)) .nil (.idx (.slot 1) (.cst (.int 0)))) .nil))))
 .nil))
/-- is_row: 0 names, 1 thing, 2 at, 3 name -/
def B_is_row (j_is_name : Nat) (g_is_name : List D → R D) : Ss := (.cons (.ife (.or (.not (.isi (.slot 1) .tuple)) (.not (.chn (.cst (.int 1)) (.blt .len (.cons (.slot 1) .nil)) (.glo "MOST_ROW" (.int 4))))) (.cons (.ret (.cst (.bool false)))
 .nil) .nil)
 (.cons (.ret (.blt .all (.cons (.lc [2, 3] (.t2 (.nm 2) (.nm 3)) (.enu (.slot 1)) .nil (.and (.call j_is_name g_is_name (.cons (.slot 3) .nil)) (.and (.cmp .isin (.slot 3) (.slot 0)) (.cmp .notin (.slot 3) (.sli (.slot 1) .non (.som (.slot 2))))))) .nil)))
 .nil))
/-- is_net: 0 thing, 1 pipes, 2 ways, 3 names, 4 pipe, 5 way -/
def B_is_net (j_are_pipes : Nat) (g_are_pipes : List D → R D) (j_is_row : Nat) (g_is_row : List D → R D) (j_is_pair : Nat) (g_is_pair : List D → R D) (j_is_rising : Nat) (g_is_rising : List D → R D) : Ss := (.cons (.ife (.or (.not (.isi (.slot 0) .tuple)) (.or (.cmp .ne (.blt .len (.cons (.slot 0) .nil)) (.cst (.int 2))) (.or (.not (.call j_are_pipes g_are_pipes (.cons (.idx (.slot 0) (.cst (.int 0))) .nil))) (.not (.isi (.idx (.slot 0) (.cst (.int 1))) .tuple))))) (.cons (.ret (.cst (.bool false)))
 .nil) .nil)
 (.cons (.asn (.t2 (.nm 1) (.nm 2)) (.slot 0))
 (.cons (.asn (.nm 3) (.lc [4] (.nm 4) (.dat (.slot 1)) .nil (.idx (.slot 4) (.cst (.int 0)))))
 (.cons (.ife (.or (.not (.chn (.cst (.int 1)) (.blt .len (.cons (.slot 2) .nil)) (.glo "MOST_WAYS" (.int 8)))) (.not (.blt .all (.cons (.lc [5] (.nm 5) (.dat (.slot 2)) .nil (.and (.call j_is_pair g_is_pair (.cons (.slot 5) .nil)) (.call j_is_row g_is_row (.cons (.slot 3) (.cons (.idx (.slot 5) (.cst (.int 1))) .nil))))) .nil)))) (.cons (.ret (.cst (.bool false)))
 .nil) .nil)
 (.cons (.ret (.call j_is_rising g_is_rising (.cons (.lc [5] (.nm 5) (.dat (.slot 2)) .nil (.idx (.slot 5) (.cst (.int 0)))) .nil)))
 .nil)))))
/-- look_net: 0 thing -/
def B_look_net (j_is_net : Nat) (g_is_net : List D → R D) : Ss := (.cons (.ife (.not (.call j_is_net g_is_net (.cons (.slot 0) .nil))) (.cons (.rse "NoNet")
 .nil) .nil)
 .nil)
/-- is_state_of: 0 net, 1 thing, 2 row, 3 pipe, 4 slug -/
def B_is_state_of (j_is_name : Nat) (g_is_name : List D → R D) : Ss := (.cons (.ife (.or (.not (.isi (.slot 1) .tuple)) (.or (.cmp .ne (.blt .len (.cons (.slot 1) .nil)) (.blt .len (.cons (.idx (.slot 0) (.cst (.int 0))) .nil))) (.not (.blt .all (.cons (.lc [2] (.nm 2) (.dat (.slot 1)) .nil (.isi (.slot 2) .tuple)) .nil))))) (.cons (.ret (.cst (.bool false)))
 .nil) .nil)
 (.cons (.ife (.not (.blt .all (.cons (.lc [2, 3] (.t2 (.nm 2) (.nm 3)) (.zip (.slot 1) (.idx (.slot 0) (.cst (.int 0)))) .nil (.cmp .eq (.blt .len (.cons (.slot 2) .nil)) (.idx (.slot 3) (.cst (.int 1))))) .nil))) (.cons (.ret (.cst (.bool false)))
 .nil) .nil)
 (.cons (.ret (.blt .all (.cons (.lc2 [2, 4] (.nm 2) (.dat (.slot 1)) .nil (.nm 4) (.dat (.slot 2)) .nil (.call j_is_name g_is_name (.cons (.slot 4) .nil))) .nil)))
 .nil)))
/-- is_state: 0 net, 1 thing -/
def B_is_state (j_look_net : Nat) (g_look_net : List D → R D) (j_is_state_of : Nat) (g_is_state_of : List D → R D) : Ss := (.cons (.exp (.call j_look_net g_look_net (.cons (.slot 0) .nil)))
 (.cons (.ret (.call j_is_state_of g_is_state_of (.cons (.slot 0) (.cons (.slot 1) .nil))))
 .nil))
/-- _law_no: 0 _law_net_here, 1 e -/
def B__law_no (exs : List Str) (j_is_state : Nat) (g_is_state : List D → R D) : Ss := (.cons (.tryx (.cons (.exp (.call j_is_state g_is_state (.cons (.slot 0) (.cons (.tup .nil) .nil))))
 .nil) 1 "PipeError" exs (.cons (.ret (.exi 1 "NoNet"))
 .nil))
 (.cons (.ret (.cst (.bool false)))
 .nil))
/-- law: 0 _law_script, 1 _law_net_here, 2 _law_state_here, 3 _law_bad_here, 4 _law_six, 5 _law_one, 6 _law_odd, 7 _law_slug, 8 _law_thing -/
def B_law (j__law_net : Nat) (g__law_net : List D → R D) (j__law_state : Nat) (g__law_state : List D → R D) (j_is_state : Nat) (g_is_state : List D → R D) (j_is_net : Nat) (g_is_net : List D → R D) (j__law_bad : Nat) (g__law_bad : List D → R D) (j__law_no : Nat) (g__law_no : List D → R D) : Ss := (.cons (.asn (.nm 1) (.call j__law_net g__law_net (.cons (.slot 0) (.cons (.cst (.int 10)) .nil))))
 (.cons (.asn (.nm 2) (.call j__law_state g__law_state (.cons (.slot 0) (.cons (.cst (.int 60)) (.cons (.slot 1) .nil)))))
 (.cons (.ife (.or (.isk true (.call j_is_net g_is_net (.cons (.slot 1) .nil)) .tru) (.isk true (.call j_is_state g_is_state (.cons (.slot 1) (.cons (.slot 2) .nil))) .tru)) (.cons (.ret (.cst (.bool false)))
 .nil) .nil)
 (.cons (.for (.nm 3) (.dat (.call j__law_bad g__law_bad (.cons (.slot 1) .nil))) (.cons (.ife (.or (.isk true (.call j_is_net g_is_net (.cons (.slot 3) .nil)) .fls) (.not (.call j__law_no g__law_no (.cons (.slot 3) .nil)))) (.cons (.ret (.cst (.bool false)))
 .nil) .nil)
 .nil))
 (.cons (.asn (.nm 4) (.blt .tuple (.cons (.lc [5] (.nm 5) (.dat (.cst (.str "abcdef"))) .nil (.tup (.cons (.slot 5) (.cons (.cst (.int 4)) .nil)))) .nil)))
 (.cons (.ife (.isk true (.call j_is_net g_is_net (.cons (.tup (.cons (.slot 4) (.cons (.blt .tuple (.cons (.lc [5] (.nm 5) (.dat (.cst (.str "abcdefgh"))) .nil (.tup (.cons (.slot 5) (.cons (.tup (.cons (.cst (.str "a")) (.cons (.cst (.str "c")) (.cons (.cst (.str "b")) (.cons (.cst (.str "f")) .nil))))) .nil)))) .nil)) .nil))) .nil)) .tru) (.cons (.ret (.cst (.bool false)))
 .nil) .nil)
 (.cons (.ife (.isk true (.call j_is_net g_is_net (.cons (.tup (.cons (.slot 4) (.cons (.tup (.cons (.tup (.cons (.cst (.str "a")) (.cons (.tup (.cons (.cst (.str "a")) (.cons (.cst (.str "b")) (.cons (.cst (.str "c")) (.cons (.cst (.str "d")) (.cons (.cst (.str "e")) .nil)))))) .nil))) .nil)) .nil))) .nil)) .fls) (.cons (.ret (.cst (.bool false)))
 .nil) .nil)
 (.cons (.own 6 (.lst (.cons (.cst .none) (.cons (.tup .nil) (.cons (.blt .list (.cons (.slot 2) .nil)) (.cons (.sli (.slot 2) (.som (.cst (.int 1))) .non) (.cons (.bin .add (.slot 2) (.sli (.slot 2) .non (.som (.cst (.int 1))))) .nil)))))))
 (.cons (.own 6 (.bin .add (.bor 6) (.lst (.cons (.bin .add (.tup (.cons (.bin .add (.idx (.slot 2) (.cst (.int 0))) (.tup (.cons (.cst (.str "x")) .nil))) .nil)) (.sli (.slot 2) (.som (.cst (.int 1))) .non)) (.cons (.bin .add (.tup (.cons (.sli (.idx (.slot 2) (.cst (.int 0))) (.som (.cst (.int 1))) .non) .nil)) (.sli (.slot 2) (.som (.cst (.int 1))) .non)) .nil)))))
 (.cons (.own 6 (.bin .add (.bor 6) (.lst (.cons (.bin .add (.tup (.cons (.blt .list (.cons (.idx (.slot 2) (.cst (.int 0))) .nil)) .nil)) (.sli (.slot 2) (.som (.cst (.int 1))) .non)) .nil))))
 (.cons (.for (.nm 7) (.dat (.tup (.cons (.cst .none) (.cons (.cst (.str "")) (.cons (.cst (.str "X")) (.cons (.cst (.str "abcde")) (.cons (.cst (.int 7)) (.cons (.tup (.cons (.cst (.str "x")) .nil)) .nil)))))))) (.cons (.app 6 (.bin .add (.tup (.cons (.bin .add (.tup (.cons (.slot 7) .nil)) (.sli (.idx (.slot 2) (.cst (.int 0))) (.som (.cst (.int 1))) .non)) .nil)) (.sli (.slot 2) (.som (.cst (.int 1))) .non)))
 .nil))
 (.cons (.ret (.cmp .eq (.lc [8] (.nm 8) (.dat (.bor 6)) (.one (.isk true (.call j_is_state g_is_state (.cons (.slot 1) (.cons (.slot 8) .nil))) .fls)) (.slot 8)) (.lst .nil)))
 .nil))))))))))))
end Fp

set_option Elab.async false
set_option linter.all false
set_option maxRecDepth 100000
set_option maxHeartbeats 1000000
/-! The program's looks, as plain functions. -/
namespace Fp
open PySem
theorem is_whole_ok (d : D) (i j : Int) : runF 3 3 B_is_whole [d, .int i, .int j] = .ok (.bool (isWhole d i j)) := by
  rw [run1 (np := 3) rfl]
  unfold B_is_whole
  rw [ret1]
  cases d with
  | int k =>
    apply ok_of
    · (repeat' (first | (with_reducible apply ev_slot; exact rfl) | with_reducible exact ev_cst | with_reducible exact ev_glo | (with_reducible apply ev_borv; exact rfl) | (with_reducible apply ev_boro; exact rfl) | with_reducible exact evs_nil | with_reducible exact evo_non | with_reducible apply evo_som | with_reducible apply evs_cons | with_reducible apply ev_and | with_reducible apply ev_or | with_reducible apply ev_not | with_reducible apply ev_chn | with_reducible apply ev_isi | with_reducible apply ev_isk | with_reducible apply ev_cmp | with_reducible apply ev_idx' | with_reducible apply ev_bin' | with_reducible apply ev_sli' | with_reducible apply ev_rev' | with_reducible apply ev_neg | with_reducible apply ev_call' | with_reducible apply ev_all | with_reducible apply ev_blt' | with_reducible apply ev_tup | with_reducible apply ev_lst | with_reducible apply ev_lc | with_reducible apply ev_lcf | with_reducible apply it_dat | with_reducible apply it_zip | with_reducible apply it_enu | (show ∃ env', _ = R.ok env' ∧ _; refine ⟨_, rfl, ?_⟩) | (show ∃ env', _ = R.ok env' ∧ _ ∧ _; refine ⟨_, rfl, ?_, ?_⟩) | (show ∀ _, (_ : Prop); intro _) | (show sz _ = true; apply szAll_mem <;> assumption) | (show (_ : Nat) ≤ _; omega) | (show (_ : Nat) ≤ _; simp only [List.length_map]; omega) | (show _ ∈ _; assumption) | (first | exact dIdxT0 | exact dIdxT1 | exact dIdxL0 | exact dIdxL1 | exact dEq_int | exact dLt_int | exact dLe_int | apply dne_ok | apply dnotin_ok | (show _ = _; assumption) | exact rfl | (show _ = _; apply_assumption))))
    · simp [isWhole, isTy, PyData.isInt, PyData.isBool]
  | _ => rfl
def sgnD : D → Bool
  | .str y => (match y.cps.toList with
    | [c] => decide (c ∈ SMALL.cps.toList)
    | _ => false)
  | _ => false
theorem is_name_ok (d : D) (h : sz d = true) : runF 1 2 B_is_name [d] = .ok (.bool (isName d)) := by
  rw [run1 (np := 1) rfl]
  unfold B_is_name
  rw [ret1]
  cases d with
  | str z =>
    have hz : z.length ≤ 1000000 := by simpa [sz] using h
    have hz2 : z.cps.toList.length = z.length := by simp [Str.length]
    have e1 : dBlt .len [.str z] = .ok (.int z.length) := by simp [dBlt]; omega
    apply ok_of
    · (repeat' (first | (with_reducible apply ev_slot; exact rfl) | with_reducible exact ev_cst | with_reducible exact ev_glo | (with_reducible apply ev_borv; exact rfl) | (with_reducible apply ev_boro; exact rfl) | with_reducible exact evs_nil | with_reducible exact evo_non | with_reducible apply evo_som | with_reducible apply evs_cons | with_reducible apply ev_and | with_reducible apply ev_or | with_reducible apply ev_not | with_reducible apply ev_chn | with_reducible apply ev_isi | with_reducible apply ev_isk | with_reducible apply ev_cmp | with_reducible apply ev_idx' | with_reducible apply ev_bin' | with_reducible apply ev_sli' | with_reducible apply ev_rev' | with_reducible apply ev_neg | with_reducible apply ev_call' | with_reducible apply ev_all | with_reducible apply ev_blt' | with_reducible apply ev_tup | with_reducible apply ev_lst | with_reducible apply ev_lc | with_reducible apply ev_lcf | with_reducible apply it_dat | with_reducible apply it_zip | with_reducible apply it_enu | (show ∃ env', _ = R.ok env' ∧ _; refine ⟨_, rfl, ?_⟩) | (show ∃ env', _ = R.ok env' ∧ _ ∧ _; refine ⟨_, rfl, ?_, ?_⟩) | (show ∀ _, (_ : Prop); intro _) | (show sz _ = true; apply szAll_mem <;> assumption) | (show (_ : Nat) ≤ _; omega) | (show (_ : Nat) ≤ _; simp only [List.length_map]; omega) | (show _ ∈ _; assumption) | (first | exact dIdxT0 | exact dIdxT1 | exact dIdxL0 | exact dIdxL1 | exact dEq_int | exact dLt_int | exact dLe_int | apply dne_ok | apply dnotin_ok | (show _ = _; assumption) | exact rfl | (show _ = _; apply_assumption))))
      · rename_i x hx
        have key : dCmp .isin x (.str SMALL) = .ok (sgnD x) := by
          obtain ⟨c, _, rfl⟩ := List.mem_map.mp hx
          rfl
        exact key
    · rw [List.all_map]
      have e2 : ((1 : Int) ≤ (z.length : Int)) ↔ 1 ≤ z.length := by omega
      have e3 : ((z.length : Int) ≤ 4) ↔ z.length ≤ 4 := by omega
      simp only [isName, isTy, PyData.isStr, Function.comp_def, sgnD, Bool.true_and, e2, e3]
  | _ => rfl
theorem is_pair_ok {g : List D → R D} (j : Nat) (hg : ∀ d, sz d = true → g [d] = .ok (.bool (isName d))) (d : D) (h : sz d = true) : runF 1 1 (B_is_pair j g) [d] = .ok (.bool (isPair d)) := by
  rw [run1 (np := 1) rfl]
  unfold B_is_pair
  rw [ret1]
  cases d with
  | tuple xs =>
    obtain ⟨hl, hs⟩ := sz_tuple h
    match xs, hs with
    | [x, y], hs =>
      have hx := hg x (szAll_mem hs List.mem_cons_self)
      apply ok_of
      · (repeat' (first | (with_reducible apply ev_slot; exact rfl) | with_reducible exact ev_cst | with_reducible exact ev_glo | (with_reducible apply ev_borv; exact rfl) | (with_reducible apply ev_boro; exact rfl) | with_reducible exact evs_nil | with_reducible exact evo_non | with_reducible apply evo_som | with_reducible apply evs_cons | with_reducible apply ev_and | with_reducible apply ev_or | with_reducible apply ev_not | with_reducible apply ev_chn | with_reducible apply ev_isi | with_reducible apply ev_isk | with_reducible apply ev_cmp | with_reducible apply ev_idx' | with_reducible apply ev_bin' | with_reducible apply ev_sli' | with_reducible apply ev_rev' | with_reducible apply ev_neg | with_reducible apply ev_call' | with_reducible apply ev_all | with_reducible apply ev_blt' | with_reducible apply ev_tup | with_reducible apply ev_lst | with_reducible apply ev_lc | with_reducible apply ev_lcf | with_reducible apply it_dat | with_reducible apply it_zip | with_reducible apply it_enu | (show ∃ env', _ = R.ok env' ∧ _; refine ⟨_, rfl, ?_⟩) | (show ∃ env', _ = R.ok env' ∧ _ ∧ _; refine ⟨_, rfl, ?_, ?_⟩) | (show ∀ _, (_ : Prop); intro _) | (show sz _ = true; apply szAll_mem <;> assumption) | (show (_ : Nat) ≤ _; omega) | (show (_ : Nat) ≤ _; simp only [List.length_map]; omega) | (show _ ∈ _; assumption) | (first | exact dIdxT0 | exact dIdxT1 | exact dIdxL0 | exact dIdxL1 | exact dEq_int | exact dLt_int | exact dLe_int | apply dne_ok | apply dnotin_ok | (show _ = _; assumption) | exact rfl | (show _ = _; apply_assumption))))
      · simp [isTy, PyData.isTuple, isPair]
    | [], hs => rfl
    | [x], hs => rfl
    | x :: y :: z :: r, hs =>
      have hx := hg x (szAll_mem hs List.mem_cons_self)
      apply ok_of
      · (repeat' (first | (with_reducible apply ev_slot; exact rfl) | with_reducible exact ev_cst | with_reducible exact ev_glo | (with_reducible apply ev_borv; exact rfl) | (with_reducible apply ev_boro; exact rfl) | with_reducible exact evs_nil | with_reducible exact evo_non | with_reducible apply evo_som | with_reducible apply evs_cons | with_reducible apply ev_and | with_reducible apply ev_or | with_reducible apply ev_not | with_reducible apply ev_chn | with_reducible apply ev_isi | with_reducible apply ev_isk | with_reducible apply ev_cmp | with_reducible apply ev_idx' | with_reducible apply ev_bin' | with_reducible apply ev_sli' | with_reducible apply ev_rev' | with_reducible apply ev_neg | with_reducible apply ev_call' | with_reducible apply ev_all | with_reducible apply ev_blt' | with_reducible apply ev_tup | with_reducible apply ev_lst | with_reducible apply ev_lc | with_reducible apply ev_lcf | with_reducible apply it_dat | with_reducible apply it_zip | with_reducible apply it_enu | (show ∃ env', _ = R.ok env' ∧ _; refine ⟨_, rfl, ?_⟩) | (show ∃ env', _ = R.ok env' ∧ _ ∧ _; refine ⟨_, rfl, ?_, ?_⟩) | (show ∀ _, (_ : Prop); intro _) | (show sz _ = true; apply szAll_mem <;> assumption) | (show (_ : Nat) ≤ _; omega) | (show (_ : Nat) ≤ _; simp only [List.length_map]; omega) | (show _ ∈ _; assumption) | (first | exact dIdxT0 | exact dIdxT1 | exact dIdxL0 | exact dIdxL1 | exact dEq_int | exact dLt_int | exact dLe_int | apply dne_ok | apply dnotin_ok | (show _ = _; assumption) | exact rfl | (show _ = _; apply_assumption))))
      · have : ¬ ((((x :: y :: z :: r : List D).length : Nat) : Int) = 2) := by simp; omega
        simp [isTy, PyData.isTuple, isPair, this]
        omega
  | _ => rfl
/-! ### rising -/
def names (xs : List D) : Bool := xs.all isName
theorem lt_names {x y : D} (hx : isName x = true) (hy : isName y = true) : dLt x y = .ok (PySem.W.dataLt x y) := by
  cases x <;> cases y <;> first
    | rfl
    | (cases hx; done)
    | (cases hy; done)
theorem zip_ris : ∀ {xs : List D}, (zipD xs (cutD xs (some 1) none)).all (fun p => PySem.W.dataLt (fstD p) (sndD p)) = risD xs
  | [] => rfl
  | [x] => rfl
  | x :: y :: r => by
    have e : ∀ zs : List D, cutD (x :: zs) (some 1) none = zs := fun zs => by
      have h1 : HT.sIx (x :: zs).length 0 (some 1) = 1 := by
        have := HT.sIx_nat (x :: zs).length 0 1
        rw [show ((1 : Nat) : Int) = 1 from rfl] at this
        rw [this]; simp
      unfold cutD
      rw [h1]
      simp [HT.sIx]
    have e' : ∀ (w : D) (zs : List D), cutD (w :: zs) (some 1) none = zs := fun w zs => by
      have h1 : HT.sIx (w :: zs).length 0 (some 1) = 1 := by
        have := HT.sIx_nat (w :: zs).length 0 1
        rw [show ((1 : Nat) : Int) = 1 from rfl] at this
        rw [this]; simp
      unfold cutD
      rw [h1]
      simp [HT.sIx]
    have ih := zip_ris (xs := y :: r)
    rw [e' y r] at ih
    rw [e' x (y :: r)]
    unfold zipD at ih ⊢
    rw [List.zipWith_cons_cons, List.all_cons, ih, risD]
    rfl
theorem mem_zipD {xs ys : List D} {p : D} (h : p ∈ zipD xs ys) : ∃ x y, x ∈ xs ∧ y ∈ ys ∧ p = .tuple [x, y] := by
  unfold zipD at h
  induction xs generalizing ys with
  | nil => simp at h
  | cons x xs ih =>
    cases ys with
    | nil => simp at h
    | cons y ys =>
      rw [List.zipWith_cons_cons] at h
      rcases List.mem_cons.mp h with rfl | h
      · exact ⟨x, y, List.mem_cons_self, List.mem_cons_self, rfl⟩
      · obtain ⟨a, b, h1, h2, h3⟩ := ih h
        exact ⟨a, b, List.mem_cons_of_mem _ h1, List.mem_cons_of_mem _ h2, h3⟩
theorem mem_cutD {xs : List D} {lo hi : Option Int} {x : D} (h : x ∈ cutD xs lo hi) : x ∈ xs := List.mem_of_mem_drop (List.mem_of_mem_take h)
theorem is_rising_ok (xs : List D) (hl : xs.length ≤ 1000000) (hn : names xs = true) : runF 1 3 B_is_rising [.list xs] = .ok (.bool (risD xs)) := by
  rw [run1 (np := 1) rfl]
  unfold B_is_rising
  rw [ret1]
  apply ok_of
  · (repeat' (first | (with_reducible apply ev_slot; exact rfl) | with_reducible exact ev_cst | with_reducible exact ev_glo | (with_reducible apply ev_borv; exact rfl) | (with_reducible apply ev_boro; exact rfl) | with_reducible exact evs_nil | with_reducible exact evo_non | with_reducible apply evo_som | with_reducible apply evs_cons | with_reducible apply ev_and | with_reducible apply ev_or | with_reducible apply ev_not | with_reducible apply ev_chn | with_reducible apply ev_isi | with_reducible apply ev_isk | with_reducible apply ev_cmp | with_reducible apply ev_idx' | with_reducible apply ev_bin' | with_reducible apply ev_sli' | with_reducible apply ev_rev' | with_reducible apply ev_neg | with_reducible apply ev_call' | with_reducible apply ev_all | with_reducible apply ev_blt' | with_reducible apply ev_tup | with_reducible apply ev_lst | with_reducible apply ev_lc | with_reducible apply ev_lcf | with_reducible apply it_dat | with_reducible apply it_zip | with_reducible apply it_enu | (show ∃ env', _ = R.ok env' ∧ _; refine ⟨_, rfl, ?_⟩) | (show ∃ env', _ = R.ok env' ∧ _ ∧ _; refine ⟨_, rfl, ?_, ?_⟩) | (show ∀ _, (_ : Prop); intro _) | (show sz _ = true; apply szAll_mem <;> assumption) | (show (_ : Nat) ≤ _; omega) | (show (_ : Nat) ≤ _; simp only [List.length_map]; omega) | (show _ ∈ _; assumption) | (first | exact dIdxT0 | exact dIdxT1 | exact dIdxL0 | exact dIdxL1 | exact dEq_int | exact dLt_int | exact dLe_int | apply dne_ok | apply dnotin_ok | (show _ = _; assumption) | exact rfl | (show _ = _; apply_assumption))))
    · unfold zipD; rw [List.length_zipWith]; omega
    · rename_i p hp
      have key : ∃ env', asg (.t2 (.nm 1) (.nm 2)) p (wipeE [.val (.list xs), .un, .un] [1, 2]) = .ok env' ∧ evE (.cmp .lt (.slot 1) (.slot 2)) env' = .ok (.bool (PySem.W.dataLt (fstD p) (sndD p))) := by
        obtain ⟨x, y, h1, h2, rfl⟩ := mem_zipD hp
        have k1 := List.all_eq_true.mp hn x h1
        have k2 := List.all_eq_true.mp hn y (mem_cutD h2)
        exact ⟨_, rfl, ev_cmp (ev_slot rfl) (ev_slot rfl) (lt_names k1 k2)⟩
      exact key
  · rw [zip_ris]
/-! ### pipes, rows, nets -/
theorem ifret_out {env : Env} {c a : E} {p : Bool} {x : D} {r : Ss} (h : evE c env = .ok (.bool p)) (ha : evE a env = .ok x) : (exSs (.cons (.ife c (.cons (.ret a) .nil) .nil) r) env).out = if p = true then .ok x else (exSs r env).out := by
  rw [ex_ifret (r := r) h fun _ => ha]
  cases p <;> rfl
theorem pair_idx {d : D} (h : isPair d = true) : dIdx d (.int 0) = .ok (fstD d) ∧ dIdx d (.int 1) = .ok (sndD d) ∧ isName (fstD d) = true := by
  unfold isPair at h
  split at h
  · exact ⟨rfl, rfl, h⟩
  · cases h
theorem pair_of {d : D} (h : isPair d = true) : ∃ x y, d = .tuple [x, y] ∧ isName x = true := by
  unfold isPair at h
  split at h
  · exact ⟨_, _, rfl, h⟩
  · cases h
theorem names_fst {xs : List D} (h : xs.all isPair = true) : names (xs.map fstD) = true := by
  unfold names
  rw [List.all_map]
  exact List.all_eq_true.mpr fun x hx => (pair_idx (List.all_eq_true.mp h x hx)).2.2
theorem are_pipes_ok {g1 g2 g3 : List D → R D} (j1 j2 j3 : Nat) (h1 : ∀ d, sz d = true → g1 [d] = .ok (.bool (isPair d))) (h2 : ∀ xs : List D, xs.length ≤ 1000000 → names xs = true → g2 [.list xs] = .ok (.bool (risD xs)))
    (h3 : ∀ d i j, g3 [d, .int i, .int j] = .ok (.bool (isWhole d i j))) (d : D) (h : sz d = true) : runF 1 2 (B_are_pipes j1 g1 j2 g2 j3 g3) [d] = .ok (.bool (arePipes d)) := by
  rw [run1 (np := 1) rfl]
  unfold B_are_pipes
  cases d with
  | tuple xs =>
    obtain ⟨hl, hs⟩ := sz_tuple h
    have hif : evE (.or (.not (.isi (.slot 0) .tuple)) (.or (.not (.chn (.cst (.int 1)) (.blt .len (.cons (.slot 0) .nil)) (.glo "MOST_PIPES" (.int 6)))) (.not (.blt .all (.cons (.lc [1] (.nm 1) (.dat (.slot 0)) .nil (.call j1 g1 (.cons (.slot 1) .nil))) .nil))))) [.val (.tuple xs), .un] =
        .ok (.bool (!(decide (1 ≤ xs.length) && decide (xs.length ≤ 6) && xs.all isPair))) := by
      apply ok_of
      · (repeat' (first | (with_reducible apply ev_slot; exact rfl) | with_reducible exact ev_cst | with_reducible exact ev_glo | (with_reducible apply ev_borv; exact rfl) | (with_reducible apply ev_boro; exact rfl) | with_reducible exact evs_nil | with_reducible exact evo_non | with_reducible apply evo_som | with_reducible apply evs_cons | with_reducible apply ev_and | with_reducible apply ev_or | with_reducible apply ev_not | with_reducible apply ev_chn | with_reducible apply ev_isi | with_reducible apply ev_isk | with_reducible apply ev_cmp | with_reducible apply ev_idx' | with_reducible apply ev_bin' | with_reducible apply ev_sli' | with_reducible apply ev_rev' | with_reducible apply ev_neg | with_reducible apply ev_call' | with_reducible apply ev_all | with_reducible apply ev_blt' | with_reducible apply ev_tup | with_reducible apply ev_lst | with_reducible apply ev_lc | with_reducible apply ev_lcf | with_reducible apply it_dat | with_reducible apply it_zip | with_reducible apply it_enu | (show ∃ env', _ = R.ok env' ∧ _; refine ⟨_, rfl, ?_⟩) | (show ∃ env', _ = R.ok env' ∧ _ ∧ _; refine ⟨_, rfl, ?_, ?_⟩) | (show ∀ _, (_ : Prop); intro _) | (show sz _ = true; apply szAll_mem <;> assumption) | (show (_ : Nat) ≤ _; omega) | (show (_ : Nat) ≤ _; simp only [List.length_map]; omega) | (show _ ∈ _; assumption) | (first | exact dIdxT0 | exact dIdxT1 | exact dIdxL0 | exact dIdxL1 | exact dEq_int | exact dLt_int | exact dLe_int | apply dne_ok | apply dnotin_ok | (show _ = _; assumption) | exact rfl | (show _ = _; apply_assumption))))
      · have e2 : ((1 : Int) ≤ (xs.length : Int)) ↔ 1 ≤ xs.length := by omega
        have e3 : ((xs.length : Int) ≤ 6) ↔ xs.length ≤ 6 := by omega
        simp only [isTy, PyData.isTuple, Bool.not_true, Bool.false_or, e2, e3, Bool.not_and]
    refine (ifret_out hif rfl).trans ?_
    by_cases hp : (decide (1 ≤ xs.length) && decide (xs.length ≤ 6) && xs.all isPair) = true
    · rw [hp, if_neg (by simp), ret1]
      have hq := hp
      simp only [Bool.and_eq_true] at hq
      have hn := names_fst hq.2
      have hn2 : (xs.map fstD).length ≤ 1000000 := by rw [List.length_map]; exact hl
      have i0 : ∀ x ∈ xs, dIdx x (.int 0) = .ok (fstD x) := fun x hx => (pair_idx (List.all_eq_true.mp hq.2 x hx)).1
      have i1 : ∀ x ∈ xs, dIdx x (.int 1) = .ok (sndD x) := fun x hx => (pair_idx (List.all_eq_true.mp hq.2 x hx)).2.1
      apply ok_of
      · (repeat' (first | (with_reducible apply ev_slot; exact rfl) | with_reducible exact ev_cst | with_reducible exact ev_glo | (with_reducible apply ev_borv; exact rfl) | (with_reducible apply ev_boro; exact rfl) | with_reducible exact evs_nil | with_reducible exact evo_non | with_reducible apply evo_som | with_reducible apply evs_cons | with_reducible apply ev_and | with_reducible apply ev_or | with_reducible apply ev_not | with_reducible apply ev_chn | with_reducible apply ev_isi | with_reducible apply ev_isk | with_reducible apply ev_cmp | with_reducible apply ev_idx' | with_reducible apply ev_bin' | with_reducible apply ev_sli' | with_reducible apply ev_rev' | with_reducible apply ev_neg | with_reducible apply ev_call' | with_reducible apply ev_all | with_reducible apply ev_blt' | with_reducible apply ev_tup | with_reducible apply ev_lst | with_reducible apply ev_lc | with_reducible apply ev_lcf | with_reducible apply it_dat | with_reducible apply it_zip | with_reducible apply it_enu | (show ∃ env', _ = R.ok env' ∧ _; refine ⟨_, rfl, ?_⟩) | (show ∃ env', _ = R.ok env' ∧ _ ∧ _; refine ⟨_, rfl, ?_, ?_⟩) | (show ∀ _, (_ : Prop); intro _) | (show sz _ = true; apply szAll_mem <;> assumption) | (show (_ : Nat) ≤ _; omega) | (show (_ : Nat) ≤ _; simp only [List.length_map]; omega) | (show _ ∈ _; assumption) | (first | exact dIdxT0 | exact dIdxT1 | exact dIdxL0 | exact dIdxL1 | exact dEq_int | exact dLt_int | exact dLe_int | apply dne_ok | apply dnotin_ok | (show _ = _; assumption) | exact rfl | (show _ = _; apply_assumption))))
      · unfold arePipes
        dsimp only
        rw [hp, Bool.true_and]
    · have hp : (decide (1 ≤ xs.length) && decide (xs.length ≤ 6) && xs.all isPair) = false := by simpa using hp
      rw [hp, if_pos (by simp)]
      unfold arePipes
      dsimp only
      rw [hp]
      rfl
  | _ => rfl
theorem mem_enumD : ∀ {xs : List D} {n : Nat} {p : D}, p ∈ enumD n xs → ∃ i x, p = .tuple [.int ((n + i : Nat) : Int), x] ∧ xs[i]? = some x
  | [], _, _, h => by simp [enumD] at h
  | x :: xs, n, p, h => by
    rw [enumD] at h
    rcases List.mem_cons.mp h with rfl | h
    · exact ⟨0, x, rfl, rfl⟩
    · obtain ⟨i, y, h1, h2⟩ := mem_enumD h
      refine ⟨i + 1, y, ?_, by simpa using h2⟩
      rw [h1]
      congr 3
      omega
theorem cut_take (xs : List D) (n : Nat) : cutD xs none (some (n : Int)) = xs.take n := by
  unfold cutD
  rw [HT.sIx_nat, HT.sIx_none, List.drop_zero, Nat.sub_zero]
  by_cases h : n ≤ xs.length
  · rw [Nat.min_eq_left h]
  · rw [Nat.min_eq_right (by omega), List.take_length, List.take_of_length_le (by omega)]
def rowP (ns xs : List D) : D → Bool
  | .tuple [.int i, x] => isName x && (inD x ns && !inD x (xs.take i.toNat))
  | _ => false
theorem all_rowP (ns xs : List D) : ∀ (l : List D) (n : Nat), (enumD n l).all (rowP ns xs) = rowGo ns xs n l
  | [], _ => rfl
  | x :: l, n => by
    rw [enumD, List.all_cons, all_rowP ns xs l (n + 1), rowGo]
    rfl
theorem fine_of_name {x : D} (h : isName x = true) : fine x = true := by
  cases x <;> first
    | rfl
    | (cases h; done)
theorem plain_take : ∀ {xs : List D} (n : Nat), PyData.plainAll xs = true → PyData.plainAll (xs.take n) = true
  | [], n, _ => by rw [List.take_nil]; rfl
  | x :: xs, 0, _ => rfl
  | x :: xs, n + 1, h => by
    rw [List.take_succ_cons]
    simp only [PyData.plainAll, Bool.and_eq_true] at h ⊢
    exact ⟨h.1, plain_take n h.2⟩
theorem depth_take : ∀ {xs : List D} (n : Nat), PyData.depthAll (xs.take n) ≤ PyData.depthAll xs
  | [], n => by rw [List.take_nil]; exact Nat.le_refl _
  | x :: xs, 0 => Nat.zero_le _
  | x :: xs, n + 1 => by
    rw [List.take_succ_cons]
    simp only [PyData.depthAll]
    have := depth_take (xs := xs) n
    omega
theorem fine_take {xs : List D} (n : Nat) (h : fine (.tuple xs) = true) : fine (.tuple (xs.take n)) = true := by
  unfold fine at h ⊢
  simp only [Bool.and_eq_true, decide_eq_true_eq, PyData.plain, PyData.depth] at h ⊢
  have := depth_take (xs := xs) n
  obtain ⟨q1, q2⟩ := h
  refine ⟨plain_take n q1, ?_⟩
  have q3 := of_decide_eq_true q2
  exact decide_eq_true (by omega)
theorem dIn_L {x : D} {ns : List D} (hx : fine x = true) (hn : fine (.list ns) = true) : dIn x (.list ns) = .ok (inD x ns) := by rw [dIn, hx, hn]; rfl
theorem dIn_T {x : D} {ns : List D} (hx : fine x = true) (hn : fine (.tuple ns) = true) : dIn x (.tuple ns) = .ok (inD x ns) := by rw [dIn, hx, hn]; rfl
theorem is_row_ok {g : List D → R D} (j : Nat) (hg : ∀ d, sz d = true → g [d] = .ok (.bool (isName d))) (ns : List D) (hn : fine (.list ns) = true) (d : D) (h : sz d = true) (hf : fine d = true) : runF 2 4 (B_is_row j g) [.list ns, d] = .ok (.bool (isRow ns d)) := by
  rw [run1 (np := 2) rfl]
  unfold B_is_row
  cases d with
  | tuple xs =>
    obtain ⟨hl, hs⟩ := sz_tuple h
    have hif : evE (.or (.not (.isi (.slot 1) .tuple)) (.not (.chn (.cst (.int 1)) (.blt .len (.cons (.slot 1) .nil)) (.glo "MOST_ROW" (.int 4))))) [.val (.list ns), .val (.tuple xs), .un, .un] = .ok (.bool (!(decide (1 ≤ xs.length) && decide (xs.length ≤ 4)))) := by
      apply ok_of
      · (repeat' (first | (with_reducible apply ev_slot; exact rfl) | with_reducible exact ev_cst | with_reducible exact ev_glo | (with_reducible apply ev_borv; exact rfl) | (with_reducible apply ev_boro; exact rfl) | with_reducible exact evs_nil | with_reducible exact evo_non | with_reducible apply evo_som | with_reducible apply evs_cons | with_reducible apply ev_and | with_reducible apply ev_or | with_reducible apply ev_not | with_reducible apply ev_chn | with_reducible apply ev_isi | with_reducible apply ev_isk | with_reducible apply ev_cmp | with_reducible apply ev_idx' | with_reducible apply ev_bin' | with_reducible apply ev_sli' | with_reducible apply ev_rev' | with_reducible apply ev_neg | with_reducible apply ev_call' | with_reducible apply ev_all | with_reducible apply ev_blt' | with_reducible apply ev_tup | with_reducible apply ev_lst | with_reducible apply ev_lc | with_reducible apply ev_lcf | with_reducible apply it_dat | with_reducible apply it_zip | with_reducible apply it_enu | (show ∃ env', _ = R.ok env' ∧ _; refine ⟨_, rfl, ?_⟩) | (show ∃ env', _ = R.ok env' ∧ _ ∧ _; refine ⟨_, rfl, ?_, ?_⟩) | (show ∀ _, (_ : Prop); intro _) | (show sz _ = true; apply szAll_mem <;> assumption) | (show (_ : Nat) ≤ _; omega) | (show (_ : Nat) ≤ _; simp only [List.length_map]; omega) | (show _ ∈ _; assumption) | (first | exact dIdxT0 | exact dIdxT1 | exact dIdxL0 | exact dIdxL1 | exact dEq_int | exact dLt_int | exact dLe_int | apply dne_ok | apply dnotin_ok | (show _ = _; assumption) | exact rfl | (show _ = _; apply_assumption))))
      · have e2 : ((1 : Int) ≤ (xs.length : Int)) ↔ 1 ≤ xs.length := by omega
        have e3 : ((xs.length : Int) ≤ 4) ↔ xs.length ≤ 4 := by omega
        simp only [isTy, PyData.isTuple, Bool.not_true, Bool.false_or, e2, e3]
    refine (ifret_out hif rfl).trans ?_
    by_cases hp : (decide (1 ≤ xs.length) && decide (xs.length ≤ 4)) = true
    · rw [hp, if_neg (by simp), ret1]
      have hen : (enumD 0 xs).length ≤ 16777216 := by
        have : ∀ (l : List D) (n : Nat), (enumD n l).length = l.length := fun l => by
          induction l with
          | nil => intro n; rfl
          | cons x l ih => intro n; rw [enumD, List.length_cons, ih, List.length_cons]
        rw [this]; omega
      apply ok_of
      · (repeat' (first | (with_reducible apply ev_slot; exact rfl) | with_reducible exact ev_cst | with_reducible exact ev_glo | (with_reducible apply ev_borv; exact rfl) | (with_reducible apply ev_boro; exact rfl) | with_reducible exact evs_nil | with_reducible exact evo_non | with_reducible apply evo_som | with_reducible apply evs_cons | with_reducible apply ev_and | with_reducible apply ev_or | with_reducible apply ev_not | with_reducible apply ev_chn | with_reducible apply ev_isi | with_reducible apply ev_isk | with_reducible apply ev_cmp | with_reducible apply ev_idx' | with_reducible apply ev_bin' | with_reducible apply ev_sli' | with_reducible apply ev_rev' | with_reducible apply ev_neg | with_reducible apply ev_call' | with_reducible apply ev_all | with_reducible apply ev_blt' | with_reducible apply ev_tup | with_reducible apply ev_lst | with_reducible apply ev_lc | with_reducible apply ev_lcf | with_reducible apply it_dat | with_reducible apply it_zip | with_reducible apply it_enu | (show ∃ env', _ = R.ok env' ∧ _; refine ⟨_, rfl, ?_⟩) | (show ∃ env', _ = R.ok env' ∧ _ ∧ _; refine ⟨_, rfl, ?_, ?_⟩) | (show ∀ _, (_ : Prop); intro _) | (show sz _ = true; apply szAll_mem <;> assumption) | (show (_ : Nat) ≤ _; omega) | (show (_ : Nat) ≤ _; simp only [List.length_map]; omega) | (show _ ∈ _; assumption) | (first | exact dIdxT0 | exact dIdxT1 | exact dIdxL0 | exact dIdxL1 | exact dEq_int | exact dLt_int | exact dLe_int | apply dne_ok | apply dnotin_ok | (show _ = _; assumption) | exact rfl | (show _ = _; apply_assumption))))
        rename_i p hp
        have key : ∃ env', asg (.t2 (.nm 2) (.nm 3)) p (wipeE [.val (.list ns), .val (.tuple xs), .un, .un] [2, 3]) = .ok env' ∧
            evE (.and (.call j g (.cons (.slot 3) .nil)) (.and (.cmp .isin (.slot 3) (.slot 0)) (.cmp .notin (.slot 3) (.sli (.slot 1) .non (.som (.slot 2)))))) env' = .ok (.bool (rowP ns xs p)) := by
          obtain ⟨i, x, rfl, hx⟩ := mem_enumD hp
          have hxm := List.mem_of_getElem? hx
          refine ⟨_, rfl, ?_⟩
          refine ev_and (ev_call' (evs1 (ev_slot rfl)) (hg x (szAll_mem hs hxm))) fun hnm => ev_and (ev_cmp (ev_slot rfl) (ev_slot rfl) (dIn_L (fine_of_name hnm) hn)) fun _ => ?_
          refine ev_cmp (y := .tuple (xs.take (0 + i))) (ev_slot rfl) ?_ (dnotin_ok (dIn_T (fine_of_name hnm) (fine_take _ hf)))
          refine ev_sli' (ev_slot rfl) evo_non (evo_som (ev_slot rfl)) ?_
          rw [dSli, cut_take]
        exact key
      · rw [all_rowP]
        unfold isRow
        dsimp only
        rw [hp, Bool.true_and]
    · have hp : (decide (1 ≤ xs.length) && decide (xs.length ≤ 4)) = false := by simpa using hp
      rw [hp, if_pos (by simp)]
      unfold isRow
      dsimp only
      rw [hp]
      rfl
  | _ => rfl
/-! ### is_net -/
theorem net_if {g1 : List D → R D} {j1 : Nat} (d : D) (h : sz d = true) (h1 : ∀ d, sz d = true → g1 [d] = .ok (.bool (arePipes d))) :
    ∃ p, evE (.or (.not (.isi (.slot 0) .tuple)) (.or (.cmp .ne (.blt .len (.cons (.slot 0) .nil)) (.cst (.int 2))) (.or (.not (.call j1 g1 (.cons (.idx (.slot 0) (.cst (.int 0))) .nil))) (.not (.isi (.idx (.slot 0) (.cst (.int 1))) .tuple))))) [.val d, .un, .un, .un, .un, .un] = .ok (.bool p) ∧
      (p = true → isNet d = false) ∧ (p = false → ∃ ps ws, d = .tuple [.tuple ps, .tuple ws] ∧ arePipes (.tuple ps) = true) := by
  cases d with
  | tuple xs =>
    obtain ⟨hl, hs⟩ := sz_tuple h
    match xs, hs, hl with
    | [x, y], hs, hl =>
      have hx : sz x = true := szAll_mem hs List.mem_cons_self
      refine ⟨!arePipes x || !isTy .tuple y, ?_, fun hp => ?_, fun hp => ?_⟩
      · apply ok_of
        · (repeat' (first | (with_reducible apply ev_slot; exact rfl) | with_reducible exact ev_cst | with_reducible exact ev_glo | (with_reducible apply ev_borv; exact rfl) | (with_reducible apply ev_boro; exact rfl) | with_reducible exact evs_nil | with_reducible exact evo_non | with_reducible apply evo_som | with_reducible apply evs_cons | with_reducible apply ev_and | with_reducible apply ev_or | with_reducible apply ev_not | with_reducible apply ev_chn | with_reducible apply ev_isi | with_reducible apply ev_isk | with_reducible apply ev_cmp | with_reducible apply ev_idx' | with_reducible apply ev_bin' | with_reducible apply ev_sli' | with_reducible apply ev_rev' | with_reducible apply ev_neg | with_reducible apply ev_call' | with_reducible apply ev_all | with_reducible apply ev_blt' | with_reducible apply ev_tup | with_reducible apply ev_lst | with_reducible apply ev_lc | with_reducible apply ev_lcf | with_reducible apply it_dat | with_reducible apply it_zip | with_reducible apply it_enu | (show ∃ env', _ = R.ok env' ∧ _; refine ⟨_, rfl, ?_⟩) | (show ∃ env', _ = R.ok env' ∧ _ ∧ _; refine ⟨_, rfl, ?_, ?_⟩) | (show ∀ _, (_ : Prop); intro _) | (show sz _ = true; apply szAll_mem <;> assumption) | (show (_ : Nat) ≤ _; omega) | (show (_ : Nat) ≤ _; simp only [List.length_map]; omega) | (show _ ∈ _; assumption) | (first | exact dIdxT0 | exact dIdxT1 | exact dIdxL0 | exact dIdxL1 | exact dEq_int | exact dLt_int | exact dLe_int | apply dne_ok | apply dnotin_ok | (show _ = _; assumption) | exact rfl | (show _ = _; apply_assumption))))
        · simp [isTy, PyData.isTuple]
      · unfold isNet
        split
        · rename_i ps ws he
          obtain ⟨e1, e2⟩ : x = .tuple ps ∧ y = .tuple ws := by
            have := PyData.tuple.inj he
            exact ⟨(List.cons.inj this).1, (List.cons.inj (List.cons.inj this).2).1⟩
          subst e1 e2
          have : arePipes (.tuple ps) = false := by
            simpa [isTy, PyData.isTuple] using hp
          rw [this]
          rfl
        · rfl
      · have h1 : arePipes x = true ∧ isTy .tuple y = true := by simpa using hp
        have e1 : ∃ ps, x = .tuple ps := by
          cases x with
          | tuple ps => exact ⟨ps, rfl⟩
          | _ => exact nomatch h1.1
        have e2 : ∃ ws, y = .tuple ws := by
          cases y with
          | tuple ps => exact ⟨ps, rfl⟩
          | _ => exact nomatch h1.2
        obtain ⟨ps, rfl⟩ := e1
        obtain ⟨ws, rfl⟩ := e2
        exact ⟨ps, ws, rfl, h1.1⟩
    | [], hs, hl => exact ⟨true, rfl, fun _ => rfl, fun z => nomatch z⟩
    | [x], hs, hl =>
      refine ⟨true, rfl, fun _ => ?_, fun z => nomatch z⟩
      unfold isNet
      split
      · rename_i he
        simp at he
      · rfl
    | x :: y :: z :: r, hs, hl =>
      refine ⟨true, ?_, fun _ => ?_, fun z => nomatch z⟩
      · refine ok_of (ev_or (p := false) (q := true) (ok_of (ev_not (ev_isi (ev_slot rfl) .tuple)) rfl) fun _ => ev_or (p := true) (q := true) (ok_of (ev_cmp (ev_lenT (ev_slot rfl)) ev_cst (dne_ok dEq_int)) ?_) fun z => nomatch z) rfl
        have : ¬ ((((x :: y :: z :: r : List D).length : Nat) : Int) = 2) := by simp; omega
        rw [decide_eq_false this]
        rfl
      · unfold isNet
        split
        · rename_i he
          simp at he
        · rfl
  | _ => exact ⟨true, rfl, fun _ => rfl, fun z => nomatch z⟩
theorem pipes_pairs {ps : List D} (h : arePipes (.tuple ps) = true) : ps.all isPair = true ∧ ps.length ≤ 6 ∧ 1 ≤ ps.length := by
  simp only [arePipes, Bool.and_eq_true, decide_eq_true_eq] at h
  exact ⟨h.1.2, h.1.1.2, h.1.1.1⟩
theorem fine_names {xs : List D} (h : names xs = true) : fine (.list xs) = true := by
  have : PyData.plainAll xs = true ∧ PyData.depthAll xs ≤ 1 := by
    induction xs with
    | nil => exact ⟨rfl, Nat.zero_le _⟩
    | cons x xs ih =>
      unfold names at h
      rw [List.all_cons, Bool.and_eq_true] at h
      obtain ⟨i1, i2⟩ := ih h.2
      have hx := h.1
      cases x <;> first
        | (cases hx; done)
        | skip
      simp only [PyData.plainAll, PyData.depthAll, PyData.plain, PyData.depth, Bool.true_and]
      exact ⟨i1, by omega⟩
  unfold fine
  rw [Bool.and_eq_true]
  refine ⟨this.1, decide_eq_true ?_⟩
  have := this.2
  simp only [PyData.depth]
  omega
theorem fine_mem {xs : List D} {x : D} (h : fine (.tuple xs) = true) (hx : x ∈ xs) : fine x = true := by
  unfold fine at h ⊢
  simp only [Bool.and_eq_true, PyData.plain, PyData.depth] at h ⊢
  obtain ⟨q1, q3⟩ := h
  have q2 := of_decide_eq_true q3
  clear q3
  have : x.plain = true ∧ x.depth ≤ PyData.depthAll xs := by
    clear q2
    induction xs with
    | nil => cases hx
    | cons y ys ih =>
      simp only [PyData.plainAll, PyData.depthAll, Bool.and_eq_true] at q1 ⊢
      rcases List.mem_cons.mp hx with rfl | hx
      · exact ⟨q1.1, by omega⟩
      · obtain ⟨i1, i2⟩ := ih hx q1.2
        exact ⟨i1, by omega⟩
  exact ⟨this.1, decide_eq_true (by omega)⟩
theorem pair_snd {d : D} (h : isPair d = true) (hs : sz d = true) (hf : fine d = true) : sz (sndD d) = true ∧ fine (sndD d) = true := by
  obtain ⟨x, y, rfl, _⟩ := pair_of h
  have hm : y ∈ [x, y] := List.mem_cons_of_mem _ List.mem_cons_self
  exact ⟨szAll_mem (sz_tuple hs).2 hm, fine_mem hf hm⟩
theorem is_net_ok {g1 g2 g3 g4 : List D → R D} (j1 j2 j3 j4 : Nat) (h1 : ∀ d, sz d = true → g1 [d] = .ok (.bool (arePipes d)))
    (h2 : ∀ ns : List D, fine (.list ns) = true → ∀ d, sz d = true → fine d = true → g2 [.list ns, d] = .ok (.bool (isRow ns d)))
    (h3 : ∀ d, sz d = true → g3 [d] = .ok (.bool (isPair d))) (h4 : ∀ xs : List D, xs.length ≤ 1000000 → names xs = true → g4 [.list xs] = .ok (.bool (risD xs)))
    (d : D) (h : sz d = true) (hf : fine d = true) : runF 1 6 (B_is_net j1 g1 j2 g2 j3 g3 j4 g4) [d] = .ok (.bool (isNet d)) := by
  rw [run1 (np := 1) rfl]
  unfold B_is_net
  obtain ⟨p, e1, e2, e3⟩ := net_if (j1 := j1) d h h1
  refine (ifret_out e1 rfl).trans ?_
  cases p with
  | true => rw [if_pos rfl, e2 rfl]
  | false =>
    rw [if_neg (by simp)]
    obtain ⟨ps, ws, rfl, hps⟩ := e3 rfl
    obtain ⟨q1, q2, q3⟩ := pipes_pairs hps
    have hsw : sz (.tuple ws) = true := szAll_mem (sz_tuple h).2 (by simp)
    obtain ⟨hwl, hws⟩ := sz_tuple hsw
    have hns := names_fst q1
    have hnf := fine_names hns
    have i0 : ∀ x ∈ ps, dIdx x (.int 0) = .ok (fstD x) := fun x hx => (pair_idx (List.all_eq_true.mp q1 x hx)).1
    rw [ex_asnT (env' := [.val (.tuple [.tuple ps, .tuple ws]), .val (.tuple ps), .val (.tuple ws), .un, .un, .un]) (by (first | (with_reducible apply ev_slot; exact rfl) | with_reducible exact ev_cst | with_reducible exact ev_glo | (with_reducible apply ev_borv; exact rfl) | (with_reducible apply ev_boro; exact rfl) | with_reducible exact evs_nil | with_reducible exact evo_non | with_reducible apply evo_som | with_reducible apply evs_cons | with_reducible apply ev_and | with_reducible apply ev_or | with_reducible apply ev_not | with_reducible apply ev_chn | with_reducible apply ev_isi | with_reducible apply ev_isk | with_reducible apply ev_cmp | with_reducible apply ev_idx' | with_reducible apply ev_bin' | with_reducible apply ev_sli' | with_reducible apply ev_rev' | with_reducible apply ev_neg | with_reducible apply ev_call' | with_reducible apply ev_all | with_reducible apply ev_blt' | with_reducible apply ev_tup | with_reducible apply ev_lst | with_reducible apply ev_lc | with_reducible apply ev_lcf | with_reducible apply it_dat | with_reducible apply it_zip | with_reducible apply it_enu | (show ∃ env', _ = R.ok env' ∧ _; refine ⟨_, rfl, ?_⟩) | (show ∃ env', _ = R.ok env' ∧ _ ∧ _; refine ⟨_, rfl, ?_, ?_⟩) | (show ∀ _, (_ : Prop); intro _) | (show sz _ = true; apply szAll_mem <;> assumption) | (show (_ : Nat) ≤ _; omega) | (show (_ : Nat) ≤ _; simp only [List.length_map]; omega) | (show _ ∈ _; assumption) | (first | exact dIdxT0 | exact dIdxT1 | exact dIdxL0 | exact dIdxL1 | exact dEq_int | exact dLt_int | exact dLe_int | apply dne_ok | apply dnotin_ok | (show _ = _; assumption) | exact rfl | (show _ = _; apply_assumption)))) rfl]
    rw [ex_asn (x := .list (ps.map fstD)) (by apply ok_of; · (repeat' (first | (with_reducible apply ev_slot; exact rfl) | with_reducible exact ev_cst | with_reducible exact ev_glo | (with_reducible apply ev_borv; exact rfl) | (with_reducible apply ev_boro; exact rfl) | with_reducible exact evs_nil | with_reducible exact evo_non | with_reducible apply evo_som | with_reducible apply evs_cons | with_reducible apply ev_and | with_reducible apply ev_or | with_reducible apply ev_not | with_reducible apply ev_chn | with_reducible apply ev_isi | with_reducible apply ev_isk | with_reducible apply ev_cmp | with_reducible apply ev_idx' | with_reducible apply ev_bin' | with_reducible apply ev_sli' | with_reducible apply ev_rev' | with_reducible apply ev_neg | with_reducible apply ev_call' | with_reducible apply ev_all | with_reducible apply ev_blt' | with_reducible apply ev_tup | with_reducible apply ev_lst | with_reducible apply ev_lc | with_reducible apply ev_lcf | with_reducible apply it_dat | with_reducible apply it_zip | with_reducible apply it_enu | (show ∃ env', _ = R.ok env' ∧ _; refine ⟨_, rfl, ?_⟩) | (show ∃ env', _ = R.ok env' ∧ _ ∧ _; refine ⟨_, rfl, ?_, ?_⟩) | (show ∀ _, (_ : Prop); intro _) | (show sz _ = true; apply szAll_mem <;> assumption) | (show (_ : Nat) ≤ _; omega) | (show (_ : Nat) ≤ _; simp only [List.length_map]; omega) | (show _ ∈ _; assumption) | (first | exact dIdxT0 | exact dIdxT1 | exact dIdxL0 | exact dIdxL1 | exact dEq_int | exact dLt_int | exact dLe_int | apply dne_ok | apply dnotin_ok | (show _ = _; assumption) | exact rfl | (show _ = _; apply_assumption))))
                                              · rfl) (by simp)]
    have hw : evE (.or (.not (.chn (.cst (.int 1)) (.blt .len (.cons (.slot 2) .nil)) (.glo "MOST_WAYS" (.int 8)))) (.not (.blt .all (.cons (.lc [5] (.nm 5) (.dat (.slot 2)) .nil (.and (.call j3 g3 (.cons (.slot 5) .nil)) (.call j2 g2 (.cons (.slot 3) (.cons (.idx (.slot 5) (.cst (.int 1))) .nil))))) .nil))))
        [.val (.tuple [.tuple ps, .tuple ws]), .val (.tuple ps), .val (.tuple ws), .val (.list (ps.map fstD)), .un, .un] =
        .ok (.bool (!(decide (1 ≤ ws.length) && decide (ws.length ≤ 8) && ws.all (fun w => isPair w && isRow (ps.map fstD) (sndD w))))) := by
      have hfw : fine (.tuple ws) = true := fine_mem hf (by simp)
      have key : ∀ w ∈ ws, evE (.and (.call j3 g3 (.cons (.slot 5) .nil)) (.call j2 g2 (.cons (.slot 3) (.cons (.idx (.slot 5) (.cst (.int 1))) .nil))))
            [.val (.tuple [.tuple ps, .tuple ws]), .val (.tuple ps), .val (.tuple ws), .val (.list (ps.map fstD)), .un, .val w] = .ok (.bool (isPair w && isRow (ps.map fstD) (sndD w))) := fun w hwm => by
          have k1 := szAll_mem hws hwm
          refine ev_and (ev_call' (evs1 (ev_slot rfl)) (h3 w k1)) fun hp => ?_
          obtain ⟨k2, k3⟩ := pair_snd hp k1 (fine_mem hfw hwm)
          have k4 := (pair_idx hp).2.1
          have k5 := h2 _ hnf _ k2 k3
          (repeat' (first | (with_reducible apply ev_slot; exact rfl) | with_reducible exact ev_cst | with_reducible exact ev_glo | (with_reducible apply ev_borv; exact rfl) | (with_reducible apply ev_boro; exact rfl) | with_reducible exact evs_nil | with_reducible exact evo_non | with_reducible apply evo_som | with_reducible apply evs_cons | with_reducible apply ev_and | with_reducible apply ev_or | with_reducible apply ev_not | with_reducible apply ev_chn | with_reducible apply ev_isi | with_reducible apply ev_isk | with_reducible apply ev_cmp | with_reducible apply ev_idx' | with_reducible apply ev_bin' | with_reducible apply ev_sli' | with_reducible apply ev_rev' | with_reducible apply ev_neg | with_reducible apply ev_call' | with_reducible apply ev_all | with_reducible apply ev_blt' | with_reducible apply ev_tup | with_reducible apply ev_lst | with_reducible apply ev_lc | with_reducible apply ev_lcf | with_reducible apply it_dat | with_reducible apply it_zip | with_reducible apply it_enu | (show ∃ env', _ = R.ok env' ∧ _; refine ⟨_, rfl, ?_⟩) | (show ∃ env', _ = R.ok env' ∧ _ ∧ _; refine ⟨_, rfl, ?_, ?_⟩) | (show ∀ _, (_ : Prop); intro _) | (show sz _ = true; apply szAll_mem <;> assumption) | (show (_ : Nat) ≤ _; omega) | (show (_ : Nat) ≤ _; simp only [List.length_map]; omega) | (show _ ∈ _; assumption) | (first | exact dIdxT0 | exact dIdxT1 | exact dIdxL0 | exact dIdxL1 | exact dEq_int | exact dLt_int | exact dLe_int | apply dne_ok | apply dnotin_ok | (show _ = _; assumption) | exact rfl | (show _ = _; apply_assumption))))
      apply ok_of
      · repeat' first
          | (apply key; assumption)
          | (first | (with_reducible apply ev_slot; exact rfl) | with_reducible exact ev_cst | with_reducible exact ev_glo | (with_reducible apply ev_borv; exact rfl) | (with_reducible apply ev_boro; exact rfl) | with_reducible exact evs_nil | with_reducible exact evo_non | with_reducible apply evo_som | with_reducible apply evs_cons | with_reducible apply ev_and | with_reducible apply ev_or | with_reducible apply ev_not | with_reducible apply ev_chn | with_reducible apply ev_isi | with_reducible apply ev_isk | with_reducible apply ev_cmp | with_reducible apply ev_idx' | with_reducible apply ev_bin' | with_reducible apply ev_sli' | with_reducible apply ev_rev' | with_reducible apply ev_neg | with_reducible apply ev_call' | with_reducible apply ev_all | with_reducible apply ev_blt' | with_reducible apply ev_tup | with_reducible apply ev_lst | with_reducible apply ev_lc | with_reducible apply ev_lcf | with_reducible apply it_dat | with_reducible apply it_zip | with_reducible apply it_enu | (show ∃ env', _ = R.ok env' ∧ _; refine ⟨_, rfl, ?_⟩) | (show ∃ env', _ = R.ok env' ∧ _ ∧ _; refine ⟨_, rfl, ?_, ?_⟩) | (show ∀ _, (_ : Prop); intro _) | (show sz _ = true; apply szAll_mem <;> assumption) | (show (_ : Nat) ≤ _; omega) | (show (_ : Nat) ≤ _; simp only [List.length_map]; omega) | (show _ ∈ _; assumption) | (first | exact dIdxT0 | exact dIdxT1 | exact dIdxL0 | exact dIdxL1 | exact dEq_int | exact dLt_int | exact dLe_int | apply dne_ok | apply dnotin_ok | (show _ = _; assumption) | exact rfl | (show _ = _; apply_assumption)))
      · have a2 : ((1 : Int) ≤ (ws.length : Int)) ↔ 1 ≤ ws.length := by omega
        have a3 : ((ws.length : Int) ≤ 8) ↔ ws.length ≤ 8 := by omega
        simp only [a2, a3, Bool.not_and]
    refine (ifret_out hw rfl).trans ?_
    by_cases hp : (decide (1 ≤ ws.length) && decide (ws.length ≤ 8) && ws.all (fun w => isPair w && isRow (ps.map fstD) (sndD w))) = true
    · rw [hp, if_neg (by simp), ret1]
      have hq := hp
      simp only [Bool.and_eq_true] at hq
      have hwp : ws.all isPair = true := List.all_eq_true.mpr fun w hw => by
        have := List.all_eq_true.mp hq.2 w hw
        simp only [Bool.and_eq_true] at this
        exact this.1
      have hn := names_fst hwp
      have hn2 : (ws.map fstD).length ≤ 1000000 := by rw [List.length_map]; exact hwl
      clear i0
      have i0 : ∀ x ∈ ws, dIdx x (.int 0) = .ok (fstD x) := fun x hx => (pair_idx (List.all_eq_true.mp hwp x hx)).1
      apply ok_of
      · (repeat' (first | (with_reducible apply ev_slot; exact rfl) | with_reducible exact ev_cst | with_reducible exact ev_glo | (with_reducible apply ev_borv; exact rfl) | (with_reducible apply ev_boro; exact rfl) | with_reducible exact evs_nil | with_reducible exact evo_non | with_reducible apply evo_som | with_reducible apply evs_cons | with_reducible apply ev_and | with_reducible apply ev_or | with_reducible apply ev_not | with_reducible apply ev_chn | with_reducible apply ev_isi | with_reducible apply ev_isk | with_reducible apply ev_cmp | with_reducible apply ev_idx' | with_reducible apply ev_bin' | with_reducible apply ev_sli' | with_reducible apply ev_rev' | with_reducible apply ev_neg | with_reducible apply ev_call' | with_reducible apply ev_all | with_reducible apply ev_blt' | with_reducible apply ev_tup | with_reducible apply ev_lst | with_reducible apply ev_lc | with_reducible apply ev_lcf | with_reducible apply it_dat | with_reducible apply it_zip | with_reducible apply it_enu | (show ∃ env', _ = R.ok env' ∧ _; refine ⟨_, rfl, ?_⟩) | (show ∃ env', _ = R.ok env' ∧ _ ∧ _; refine ⟨_, rfl, ?_, ?_⟩) | (show ∀ _, (_ : Prop); intro _) | (show sz _ = true; apply szAll_mem <;> assumption) | (show (_ : Nat) ≤ _; omega) | (show (_ : Nat) ≤ _; simp only [List.length_map]; omega) | (show _ ∈ _; assumption) | (first | exact dIdxT0 | exact dIdxT1 | exact dIdxL0 | exact dIdxL1 | exact dEq_int | exact dLt_int | exact dLe_int | apply dne_ok | apply dnotin_ok | (show _ = _; assumption) | exact rfl | (show _ = _; apply_assumption))))
      · rw [isNet, hps, hp]; rfl
    · have hp : (decide (1 ≤ ws.length) && decide (ws.length ≤ 8) && ws.all (fun w => isPair w && isRow (ps.map fstD) (sndD w))) = false := by simpa using hp
      rw [hp, if_pos (by simp), isNet, hps, hp]
      rfl
end Fp

set_option Elab.async false
set_option linter.all false
set_option maxRecDepth 100000
set_option maxHeartbeats 1000000
/-! States. -/
namespace Fp
open PySem
theorem lcGo2_map {F : D → R (List D)} {g : D → List D} : ∀ {xs : List D}, (∀ x ∈ xs, F x = .ok (g x)) → lcGo2 F xs = .ok (xs.flatMap g)
  | [], _ => rfl
  | x :: xs, h => by
    have ih := lcGo2_map (F := F) (g := g) (xs := xs) fun y hy => h y (List.mem_cons_of_mem _ hy)
    rw [lcGo2, h x List.mem_cons_self]
    dsimp only
    rw [ih, List.flatMap_cons]
/-- [e for tg in it for tg2 in it2] -/
theorem ev_lc2 {own : List Nat} {tg tg2 : Tg} {it it2 : It} {e : E} {env : Env} {xs : List D} {f : D → List D} {g : D → D → D} (hi : evIt it env = .ok xs) (hl : (xs.flatMap f).length ≤ 16777216)
    (h : ∀ x ∈ xs, ∃ env', asg tg x (wipeE env own) = .ok env' ∧ evIt it2 env' = .ok (f x) ∧ ∀ z ∈ f x, ∃ env2, asg tg2 z (wipeE env' (tgv tg2)) = .ok env2 ∧ evE e env2 = .ok (g x z)) :
    evE (.lc2 own tg it .nil tg2 it2 .nil e) env = .ok (.list (xs.flatMap fun x => (f x).map (g x))) := by
  rw [evE, hi, R.bind_ok, lcGo2_map (g := fun x => (f x).map (g x)), R.bind_ok, if_pos]
  · refine Nat.le_trans (Nat.le_of_eq ?_) hl
    rw [List.length_flatMap, List.length_flatMap]
    simp
  · intro x hx
    obtain ⟨env', h1, h2, h3⟩ := h x hx
    rw [h1, R.bind_ok, evCs, R.bind_ok, if_pos rfl, h2, R.bind_ok]
    rw [lcGo_map (g := fun z => some (g x z)), filterMap_some]
    intro z hz
    obtain ⟨env2, k1, k2⟩ := h3 z hz
    rw [k1, R.bind_ok, evCs, R.bind_ok, if_pos rfl, k2, R.bind_ok]
theorem boolsD_app {xs ys : List D} {as bs : List Bool} (h : boolsD xs = .ok as) (k : boolsD ys = .ok bs) : boolsD (xs ++ ys) = .ok (as ++ bs) := by
  induction xs generalizing as with
  | nil => cases h; exact k
  | cons x xs ih =>
    cases x with
    | bool b =>
      rw [boolsD] at h
      cases e : boolsD xs with
      | ok cs =>
        rw [e] at h
        cases h
        rw [List.cons_append, boolsD, ih e]
        rfl
      | ex c => rw [e] at h; cases h
      | no => rw [e] at h; cases h
    | _ => cases h
theorem boolsD_flat {f : D → List D} {p : D → D → Bool} : ∀ xs : List D, boolsD (xs.flatMap fun x => (f x).map fun z => .bool (p x z)) = .ok (xs.flatMap fun x => (f x).map (p x))
  | [] => rfl
  | x :: xs => by
    rw [List.flatMap_cons, List.flatMap_cons]
    exact boolsD_app (boolsD_map (p x) (f x)) (boolsD_flat xs)
theorem ev_all2 {own : List Nat} {tg tg2 : Tg} {it it2 : It} {e : E} {env : Env} {xs : List D} {f : D → List D} {p : D → D → Bool} (hi : evIt it env = .ok xs) (hl : (xs.flatMap f).length ≤ 16777216)
    (h : ∀ x ∈ xs, ∃ env', asg tg x (wipeE env own) = .ok env' ∧ evIt it2 env' = .ok (f x) ∧ ∀ z ∈ f x, ∃ env2, asg tg2 z (wipeE env' (tgv tg2)) = .ok env2 ∧ evE e env2 = .ok (.bool (p x z))) :
    evE (.blt .all (.cons (.lc2 own tg it .nil tg2 it2 .nil e) .nil)) env = .ok (.bool (xs.all fun x => (f x).all (p x))) := by
  rw [evE, evEs, ev_lc2 (g := fun x z => .bool (p x z)) hi hl h, R.bind_ok, evEs, R.bind_ok, R.bind_ok, dBlt, boolsD_flat, R.bind_ok]
  have key : ∀ ys : List D, (ys.flatMap fun x => (f x).map (p x)).all id = ys.all fun x => (f x).all (p x) := fun ys => by
    induction ys with
    | nil => rfl
    | cons x ys ih => rw [List.flatMap_cons, List.all_append, ih, List.all_cons, List.all_map]; rfl
  rw [key]
def lenD : D → Nat
  | .tuple xs => xs.length
  | _ => 0
def itD : D → List D
  | .tuple xs => xs
  | _ => []
def intD : D → Int
  | .int k => k
  | _ => 0
def lensOk (p : D) : Bool := decide ((lenD (fstD p) : Int) = intD (sndD (sndD p)))
def stOf (ps : List D) : D → Bool
  | .tuple rows => decide (rows.length = ps.length) && rows.all (isTy .tuple) && (zipD rows ps).all lensOk && rows.all fun r => (itD r).all isName
  | _ => false
theorem whole_int {d : D} {i j : Int} (h : isWhole d i j = true) : ∃ k, d = .int k ∧ i ≤ k ∧ k ≤ j := by
  cases d with
  | int k =>
    simp [isWhole, PyData.isInt, PyData.isBool] at h
    exact ⟨k, rfl, h.1, h.2⟩
  | _ => simp [isWhole, PyData.isInt, PyData.isBool] at h
theorem pipe_of {ps : List D} (h : arePipes (.tuple ps) = true) {p : D} (hp : p ∈ ps) : ∃ x k, p = .tuple [x, .int k] ∧ isName x = true ∧ 1 ≤ k ∧ k ≤ 4 := by
  simp only [arePipes, Bool.and_eq_true] at h
  obtain ⟨x, y, rfl, hx⟩ := pair_of (List.all_eq_true.mp h.1.2 p hp)
  obtain ⟨k, rfl, h1, h2⟩ := whole_int (List.all_eq_true.mp h.2.1 _ hp)
  exact ⟨x, k, rfl, hx, h1, h2⟩
theorem look_net_ok {g : List D → R D} (j : Nat) (hg : ∀ d, sz d = true → fine d = true → g [d] = .ok (.bool (isNet d))) (d : D) (h : sz d = true) (hf : fine d = true) :
    runF 1 1 (B_look_net j g) [d] = if isNet d = true then .ok .none else .ex "NoNet" := by
  rw [run1 (np := 1) rfl]
  unfold B_look_net
  rw [ex_ife (p := !isNet d) (by have := hg d h hf; (repeat' (first | (with_reducible apply ev_slot; exact rfl) | with_reducible exact ev_cst | with_reducible exact ev_glo | (with_reducible apply ev_borv; exact rfl) | (with_reducible apply ev_boro; exact rfl) | with_reducible exact evs_nil | with_reducible exact evo_non | with_reducible apply evo_som | with_reducible apply evs_cons | with_reducible apply ev_and | with_reducible apply ev_or | with_reducible apply ev_not | with_reducible apply ev_chn | with_reducible apply ev_isi | with_reducible apply ev_isk | with_reducible apply ev_cmp | with_reducible apply ev_idx' | with_reducible apply ev_bin' | with_reducible apply ev_sli' | with_reducible apply ev_rev' | with_reducible apply ev_neg | with_reducible apply ev_call' | with_reducible apply ev_all | with_reducible apply ev_blt' | with_reducible apply ev_tup | with_reducible apply ev_lst | with_reducible apply ev_lc | with_reducible apply ev_lcf | with_reducible apply it_dat | with_reducible apply it_zip | with_reducible apply it_enu | (show ∃ env', _ = R.ok env' ∧ _; refine ⟨_, rfl, ?_⟩) | (show ∃ env', _ = R.ok env' ∧ _ ∧ _; refine ⟨_, rfl, ?_, ?_⟩) | (show ∀ _, (_ : Prop); intro _) | (show sz _ = true; apply szAll_mem <;> assumption) | (show (_ : Nat) ≤ _; omega) | (show (_ : Nat) ≤ _; simp only [List.length_map]; omega) | (show _ ∈ _; assumption) | (first | exact dIdxT0 | exact dIdxT1 | exact dIdxL0 | exact dIdxL1 | exact dEq_int | exact dLt_int | exact dLe_int | apply dne_ok | apply dnotin_ok | (show _ = _; assumption) | exact rfl | (show _ = _; apply_assumption)))))]
  cases isNet d with
  | true => rw [if_neg (by simp), exSs, if_pos rfl]; rfl
  | false =>
    rw [if_pos (by simp), exSs, exS]
    rfl
theorem tup_of {d : D} (h : isTy .tuple d = true) : ∃ xs, d = .tuple xs := by
  cases d with
  | tuple xs => exact ⟨xs, rfl⟩
  | _ => exact nomatch h
theorem zip_lens : ∀ {rows ps : List D} {p : D}, rows.length = ps.length → (zipD rows ps).all lensOk = true → ∀ r ∈ rows, ∃ p ∈ ps, (lenD r : Int) = intD (sndD p)
  | [], _, _, _, _, r, hr => nomatch hr
  | r :: rows, [], _, hl, _, _, _ => by simp at hl
  | r :: rows, p :: ps, q, hl, h, r', hr => by
    rw [zipD, List.zipWith_cons_cons, List.all_cons, Bool.and_eq_true] at h
    rcases List.mem_cons.mp hr with rfl | hr
    · exact ⟨p, List.mem_cons_self, of_decide_eq_true h.1⟩
    · obtain ⟨p', h1, h2⟩ := zip_lens (p := q) (by simpa using hl) h.2 r' hr
      exact ⟨p', List.mem_cons_of_mem _ h1, h2⟩
theorem flat_len : ∀ {rows : List D}, (∀ r ∈ rows, lenD r ≤ 4) → (rows.flatMap itD).length ≤ 4 * rows.length
  | [], _ => Nat.zero_le _
  | r :: rows, h => by
    rw [List.flatMap_cons, List.length_append, List.length_cons]
    have i1 := flat_len fun r hr => h r (List.mem_cons_of_mem _ hr)
    have i2 := h r List.mem_cons_self
    have i3 : (itD r).length = lenD r := by cases r <;> rfl
    omega
theorem is_state_of_ok {g : List D → R D} (j : Nat) (hg : ∀ d, sz d = true → g [d] = .ok (.bool (isName d))) (ps : List D) (w : D) (hps : arePipes (.tuple ps) = true) (hpl : ps.length ≤ 1000000) (d : D) (h : sz d = true) :
    runF 2 5 (B_is_state_of j g) [.tuple [.tuple ps, w], d] = .ok (.bool (stOf ps d)) := by
  rw [run1 (np := 2) rfl]
  unfold B_is_state_of
  cases d with
  | tuple rows =>
    obtain ⟨hl, hs⟩ := sz_tuple h
    have hif : evE (.or (.not (.isi (.slot 1) .tuple)) (.or (.cmp .ne (.blt .len (.cons (.slot 1) .nil)) (.blt .len (.cons (.idx (.slot 0) (.cst (.int 0))) .nil))) (.not (.blt .all (.cons (.lc [2] (.nm 2) (.dat (.slot 1)) .nil (.isi (.slot 2) .tuple)) .nil)))))
        [.val (.tuple [.tuple ps, w]), .val (.tuple rows), .un, .un, .un] = .ok (.bool (!(decide (rows.length = ps.length) && rows.all (isTy .tuple)))) := by
      apply ok_of
      · repeat' first
          | (with_reducible apply ev_lenT)
          | (first | (with_reducible apply ev_slot; exact rfl) | with_reducible exact ev_cst | with_reducible exact ev_glo | (with_reducible apply ev_borv; exact rfl) | (with_reducible apply ev_boro; exact rfl) | with_reducible exact evs_nil | with_reducible exact evo_non | with_reducible apply evo_som | with_reducible apply evs_cons | with_reducible apply ev_and | with_reducible apply ev_or | with_reducible apply ev_not | with_reducible apply ev_chn | with_reducible apply ev_isi | with_reducible apply ev_isk | with_reducible apply ev_cmp | with_reducible apply ev_idx' | with_reducible apply ev_bin' | with_reducible apply ev_sli' | with_reducible apply ev_rev' | with_reducible apply ev_neg | with_reducible apply ev_call' | with_reducible apply ev_all | with_reducible apply ev_blt' | with_reducible apply ev_tup | with_reducible apply ev_lst | with_reducible apply ev_lc | with_reducible apply ev_lcf | with_reducible apply it_dat | with_reducible apply it_zip | with_reducible apply it_enu | (show ∃ env', _ = R.ok env' ∧ _; refine ⟨_, rfl, ?_⟩) | (show ∃ env', _ = R.ok env' ∧ _ ∧ _; refine ⟨_, rfl, ?_, ?_⟩) | (show ∀ _, (_ : Prop); intro _) | (show sz _ = true; apply szAll_mem <;> assumption) | (show (_ : Nat) ≤ _; omega) | (show (_ : Nat) ≤ _; simp only [List.length_map]; omega) | (show _ ∈ _; assumption) | (first | exact dIdxT0 | exact dIdxT1 | exact dIdxL0 | exact dIdxL1 | exact dEq_int | exact dLt_int | exact dLe_int | apply dne_ok | apply dnotin_ok | (show _ = _; assumption) | exact rfl | (show _ = _; apply_assumption)))
      · have e2 : ((rows.length : Int) = (ps.length : Int)) ↔ rows.length = ps.length := by omega
        simp only [isTy, PyData.isTuple, Bool.not_true, Bool.false_or, e2, Bool.not_and]
        rfl
    refine (ifret_out hif rfl).trans ?_
    by_cases hp : (decide (rows.length = ps.length) && rows.all (isTy .tuple)) = true
    · rw [hp, if_neg (by simp)]
      have hq := hp
      rw [Bool.and_eq_true, decide_eq_true_eq] at hq
      have hif2 : evE (.not (.blt .all (.cons (.lc [2, 3] (.t2 (.nm 2) (.nm 3)) (.zip (.slot 1) (.idx (.slot 0) (.cst (.int 0)))) .nil (.cmp .eq (.blt .len (.cons (.slot 2) .nil)) (.idx (.slot 3) (.cst (.int 1))))) .nil)))
          [.val (.tuple [.tuple ps, w]), .val (.tuple rows), .un, .un, .un] = .ok (.bool (!((zipD rows ps).all lensOk))) := by
        refine ev_not (ev_all (it_zip (ev_slot rfl) (ev_idx' (ev_slot rfl) ev_cst dIdxT0) rfl) ?_ fun z hz => ?_)
        · unfold zipD; rw [List.length_zipWith]; omega
        · obtain ⟨r, p, h1, h2, rfl⟩ := mem_zipD hz
          obtain ⟨x, k, rfl, _⟩ := pipe_of hps h2
          obtain ⟨r, rfl⟩ := tup_of (List.all_eq_true.mp hq.2 _ h1)
          exact ⟨_, rfl, ev_cmp (ev_lenT (ev_slot rfl)) (ev_idx' (ev_slot rfl) ev_cst dIdxT1) rfl⟩
      refine (ifret_out hif2 rfl).trans ?_
      by_cases hz : (zipD rows ps).all lensOk = true
      · rw [hz, if_neg (by simp), ret1]
        have hlen : (rows.flatMap itD).length ≤ 16777216 := by
          have h1 : ∀ r ∈ rows, lenD r ≤ 4 := fun r hr => by
            obtain ⟨p, h1, h2⟩ := zip_lens (p := .none) hq.1 hz r hr
            obtain ⟨x, k, rfl, _, _, h3⟩ := pipe_of hps h1
            have h2 : (lenD r : Int) = k := h2
            omega
          have := flat_len h1
          omega
        apply ok_of
        · refine ev_all2 (f := itD) (p := fun _ z => isName z) (it_dat (ev_slot rfl) rfl) hlen fun r hr => ?_
          obtain ⟨xs, rfl⟩ := tup_of (List.all_eq_true.mp hq.2 _ hr)
          refine ⟨_, rfl, it_dat (ev_slot rfl) rfl, fun z hz => ⟨_, rfl, ?_⟩⟩
          have hzs := hg z (szAll_mem (sz_tuple (szAll_mem hs hr)).2 hz)
          exact ev_call' (evs1 (ev_slot rfl)) hzs
        · rw [stOf, hp, hz]; rfl
      · have hz : (zipD rows ps).all lensOk = false := by simpa using hz
        rw [hz, if_pos (by simp), stOf, hp, hz]
        rfl
    · have hp : (decide (rows.length = ps.length) && rows.all (isTy .tuple)) = false := by simpa using hp
      rw [hp, if_pos (by simp), stOf, hp]
      rfl
  | _ => rfl
/-- is_state: of what is no net NoNet is told -/
theorem is_state_ok {g1 g2 : List D → R D} (j1 j2 : Nat) (h1 : ∀ d, sz d = true → fine d = true → g1 [d] = if isNet d = true then .ok .none else .ex "NoNet")
    (h2 : ∀ ps w, arePipes (.tuple ps) = true → ps.length ≤ 1000000 → ∀ d, sz d = true → g2 [.tuple [.tuple ps, w], d] = .ok (.bool (stOf ps d)))
    (n d : D) (hn : sz n = true) (hnf : fine n = true) (hd : sz d = true) :
    runF 2 2 (B_is_state j1 g1 j2 g2) [n, d] = if isNet n = true then .ok (.bool (stOf (itD (fstD n)) d)) else .ex "NoNet" := by
  rw [run1 (np := 2) rfl]
  unfold B_is_state
  have hc := h1 n hn hnf
  rw [exSs, exS, ev_call (evs1 (ev_slot rfl)), hc]
  by_cases hp : isNet n = true
  · rw [if_pos hp, if_pos hp]
    have : ∃ ps ws, n = .tuple [.tuple ps, .tuple ws] ∧ arePipes (.tuple ps) = true := by
      unfold isNet at hp
      split at hp
      · rename_i ps ws
        rw [Bool.and_eq_true] at hp
        exact ⟨ps, ws, rfl, hp.1⟩
      · cases hp
    obtain ⟨ps, ws, rfl, hps⟩ := this
    have e := h2 ps (.tuple ws) hps (sz_tuple (szAll_mem (sz_tuple hn).2 List.mem_cons_self)).1 d hd
    show (exSs (.cons (.ret (.call j2 g2 (.cons (.slot 0) (.cons (.slot 1) .nil)))) .nil) _).out = _
    rw [ret1, ev_call (evs_cons (ev_slot rfl) (evs1 (ev_slot rfl))), e]
    rfl
  · rw [if_neg hp, if_neg hp]
    rfl
end Fp

set_option Elab.async false
set_option linter.all false
set_option maxRecDepth 100000
set_option maxHeartbeats 1000000
/-! What is drawn. -/
namespace Fp
open PySem
section
variable {env : Env} {a b c : E} {i j : Int}
theorem ev_iadd (h1 : evE a env = .ok (.int i)) (h2 : evE b env = .ok (.int j)) : evE (.bin .add a b) env = .ok (.int (i + j)) := ev_bin' h1 h2 rfl
theorem ev_isub (h1 : evE a env = .ok (.int i)) (h2 : evE b env = .ok (.int j)) : evE (.bin .sub a b) env = .ok (.int (i - j)) := ev_bin' h1 h2 rfl
theorem ev_imul (h1 : evE a env = .ok (.int i)) (h2 : evE b env = .ok (.int j)) (h : (decide (-(2 ^ 64) < i) && decide (i < 2 ^ 64) || decide (-(2 ^ 64) < j) && decide (j < 2 ^ 64)) = true) : evE (.bin .mul a b) env = .ok (.int (i * j)) :=
  ev_bin' h1 h2 (by rw [dBin, dMul, if_pos h])
theorem ev_imod (h1 : evE a env = .ok (.int i)) (h2 : evE b env = .ok (.int j)) (h : 0 < j) : evE (.bin .mod a b) env = .ok (.int (i % j)) :=
  ev_bin' h1 h2 (by rw [dBin, if_pos h])
theorem ev_idiv (h1 : evE a env = .ok (.int i)) (h2 : evE b env = .ok (.int j)) (h : (decide (0 < j) && decide (j.natAbs.log2 < 9000)) = true) : evE (.bin .fdiv a b) env = .ok (.int (i / j)) :=
  ev_bin' h1 h2 (by rw [dBin, if_pos h])
theorem ev_ipow (h1 : evE a env = .ok (.int i)) (h2 : evE b env = .ok (.int j)) (h : (decide (0 ≤ j) && decide (j ≤ 1000000) && decide (i.natAbs < 2 ^ 64)) = true) : evE (.bin .pow a b) env = .ok (.int (i ^ j.toNat)) :=
  ev_bin' h1 h2 (by rw [dBin, if_pos h])
end
def drawnT : Ss := .cons (.asn (.nm 3) (.bin .mod (.bin .add (.bin .mul (.bin .mod (.slot 3) (.cst (.int 2147483563))) (.cst (.int 69069))) (.bin .mul (.cst (.int 104723)) (.bin .add (.slot 1) (.cst (.int 1))))) (.cst (.int 2147483563))))
 (.cons (.asn (.nm 3) (.bin .mod (.bin .add (.bin .mul (.slot 3) (.slot 3)) (.bin .fdiv (.slot 3) (.cst (.int 3)))) (.cst (.int 2147483399))))
 (.cons (.ret (.bin .mod (.bin .fdiv (.bin .mod (.bin .add (.bin .mul (.slot 3) (.slot 3)) (.bin .fdiv (.slot 3) (.cst (.int 7)))) (.cst (.int 2147483647))) (.cst (.int 11))) (.slot 2)))
 .nil))
def inR (m : Int) (x : R D) : Prop := ∃ r, 0 ≤ r ∧ r < m ∧ x = .ok (.int r)
theorem drawnT_ok (x : Slot) (k m c : Int) (s4 s5 : Slot) (hm : 0 < m) : inR m (exSs drawnT [x, .val (.int k), .val (.int m), .val (.int c), s4, s5]).out := by
  unfold drawnT
  rw [ex_asn (ev_imod (ev_iadd (ev_imul (ev_imod (ev_slot rfl) ev_cst (by decide)) ev_cst (by simp)) (ev_imul ev_cst (ev_iadd (ev_slot rfl) ev_cst) (by simp))) ev_cst (by decide)) (by simp)]
  generalize hc1 : (c % 2147483563 * 69069 + 104723 * (k + 1)) % 2147483563 = c1
  have b1 : 0 ≤ c1 := by omega
  have b2 : c1 < 2147483563 := by omega
  show inR m (exSs _ [x, .val (.int k), .val (.int m), .val (.int c1), s4, s5]).out
  rw [ex_asn (ev_imod (ev_iadd (ev_imul (ev_slot rfl) (ev_slot rfl) (by simp; omega)) (ev_idiv (ev_slot rfl) ev_cst (by decide))) ev_cst (by decide)) (by simp)]
  have b3 : 0 ≤ (c1 * c1 + c1 / 3) % 2147483399 := Int.emod_nonneg _ (by decide)
  have b4 : (c1 * c1 + c1 / 3) % 2147483399 < 2147483399 := Int.emod_lt_of_pos _ (by decide)
  revert b3 b4
  generalize (c1 * c1 + c1 / 3) % 2147483399 = c2
  intro b3 b4
  show inR m (exSs _ [x, .val (.int k), .val (.int m), .val (.int c2), s4, s5]).out
  rw [ret1, ev_imod (ev_idiv (ev_imod (ev_iadd (ev_imul (ev_slot rfl) (ev_slot rfl) (by simp; omega)) (ev_idiv (ev_slot rfl) ev_cst (by decide))) ev_cst (by decide)) ev_cst (by decide)) (ev_slot rfl) hm]
  exact ⟨_, Int.emod_nonneg _ (by omega), Int.emod_lt_of_pos _ hm, rfl⟩
def drawnW : Ss := .cons (.asn (.nm 5) (.bin .fdiv (.slot 5) (.cst (.int 1000000)))) (.cons (.asn (.nm 4) (.bin .sub (.slot 4) (.cst (.int 1)))) .nil)
def drawnC : E := .and (.cmp .gt (.slot 5) (.cst (.int 0))) (.cmp .gt (.slot 4) (.cst (.int 0)))
theorem drawnW_ok (x k m c : Slot) : ∀ (n N : Nat) (t r : Int), t ≤ n → n < N → ∃ t' r', whlGo (evE drawnC) (exSs drawnW) N [x, k, m, c, .val (.int t), .val (.int r)] = .nx [x, k, m, c, .val (.int t'), .val (.int r')]
  | n, 0, t, r, _, h => by omega
  | n, N + 1, t, r, h, hN => by
    have hc : evE drawnC [x, k, m, c, .val (.int t), .val (.int r)] = .ok (.bool (decide (0 < r) && decide (0 < t))) :=
      ev_and (ev_cmp (ev_slot rfl) ev_cst dLt_int) fun _ => ev_cmp (ev_slot rfl) ev_cst dLt_int
    rw [whlGo, hc]
    by_cases hp : (decide (0 < r) && decide (0 < t)) = true
    · rw [hp]
      have hb : exSs drawnW [x, k, m, c, .val (.int t), .val (.int r)] = .nx [x, k, m, c, .val (.int (t - 1)), .val (.int (r / 1000000))] := by
        unfold drawnW
        rw [ex_asn (ev_idiv (ev_slot rfl) ev_cst (by decide)) (by simp)]
        show exSs _ [x, k, m, c, .val (.int t), .val (.int (r / 1000000))] = _
        rw [ex_asn (ev_isub (ev_slot rfl) ev_cst) (by simp), ex_nil]
        rfl
      show ∃ t' r', (exSs drawnW [x, k, m, c, .val (.int t), .val (.int r)]).andThen (whlGo (evE drawnC) (exSs drawnW) N) = Fl.nx [x, k, m, c, .val (.int t'), .val (.int r')]
      rw [hb]
      simp only [Bool.and_eq_true, decide_eq_true_eq] at hp
      match n, h, hN with
      | 0, h, hN => omega
      | n + 1, h, hN => exact drawnW_ok x k m c n N (t - 1) (r / 1000000) (by omega) (by omega)
    · have hp : (decide (0 < r) && decide (0 < t)) = false := by simpa using hp
      rw [hp]
      exact ⟨t, r, rfl⟩
theorem plain_ints : ∀ ns : List Int, PyData.plainAll (ns.map PyData.int) = true ∧ PyData.depthAll (ns.map PyData.int) ≤ 1
  | [] => ⟨rfl, Nat.zero_le _⟩
  | n :: ns => by
    obtain ⟨i1, i2⟩ := plain_ints ns
    rw [List.map_cons]
    refine ⟨?_, ?_⟩
    · rw [PyData.plainAll, i1]; rfl
    · rw [PyData.depthAll]
      have : PyData.depth (.int n) = 0 := rfl
      omega
theorem fine_ints (ns : List Int) : fine (.list (ns.map PyData.int)) = true := by
  obtain ⟨i1, i2⟩ := plain_ints ns
  unfold fine
  rw [Bool.and_eq_true]
  refine ⟨i1, decide_eq_true ?_⟩
  simp only [PyData.depth]
  omega
theorem eqv_nil (ns : List Int) : PyData.eqv (.list (ns.map PyData.int)) (.list []) = ns.isEmpty := by
  cases ns <;> rfl
def drawnI : Ss := .cons (.asn (.nm 5) (.bin .fdiv (.slot 3) (.bin .pow (.cst (.int 10)) (.cst (.int 18)))))
 (.cons (.whl drawnC drawnW)
 (.cons (.ife (.cmp .gt (.slot 5) (.cst (.int 0))) (.cons (.ret (.bin .mod (.bin .mod (.slot 5) (.cst (.int 1000000))) (.slot 2)))
 .nil) .nil)
 .nil))
theorem drawnI_ok (x k : Slot) (m c t : Int) (s5 : Slot) (hm : 0 < m) (ht : t < 60) : (∃ t' r', exSs drawnI [x, k, .val (.int m), .val (.int c), .val (.int t), s5] = .nx [x, k, .val (.int m), .val (.int c), .val (.int t'), .val (.int r')]) ∨
    ∃ r, 0 ≤ r ∧ r < m ∧ exSs drawnI [x, k, .val (.int m), .val (.int c), .val (.int t), s5] = .rt (.int r) := by
  unfold drawnI
  have e0 : evE (.bin .pow (.cst (.int 10)) (.cst (.int 18))) [x, k, .val (.int m), .val (.int c), .val (.int t), s5] = .ok (.int 1000000000000000000) := ok_of (ev_ipow ev_cst ev_cst (by decide)) (congrArg PyData.int (by decide))
  rw [ex_asn (ev_idiv (ev_slot rfl) e0 (by decide)) (by simp)]
  show (∃ t' r', exSs _ [x, k, .val (.int m), .val (.int c), .val (.int t), .val (.int (c / 1000000000000000000))] = _) ∨ ∃ r, _ ∧ _ ∧ exSs _ [x, k, .val (.int m), .val (.int c), .val (.int t), .val (.int (c / 1000000000000000000))] = _
  obtain ⟨t', r', e1⟩ := drawnW_ok x k (.val (.int m)) (.val (.int c)) 60 turns t (c / 1000000000000000000) (by omega) (by decide)
  rw [exSs, exS, e1]
  have hc : evE (.cmp .gt (.slot 5) (.cst (.int 0))) [x, k, .val (.int m), .val (.int c), .val (.int t'), .val (.int r')] = .ok (.bool (decide (0 < r'))) := ev_cmp (ev_slot rfl) ev_cst dLt_int
  show (∃ t'_1 r'_1, exSs _ [x, k, .val (.int m), .val (.int c), .val (.int t'), .val (.int r')] = _) ∨ ∃ r, _ ∧ _ ∧ exSs _ [x, k, .val (.int m), .val (.int c), .val (.int t'), .val (.int r')] = _
  rw [ex_ifret hc fun _ => ev_imod (ev_imod (ev_slot rfl) ev_cst (by decide)) (ev_slot rfl) hm]
  by_cases hp : decide (0 < r') = true
  · rw [if_pos hp]
    exact .inr ⟨_, Int.emod_nonneg _ (by omega), Int.emod_lt_of_pos _ hm, rfl⟩
  · rw [if_neg hp]
    exact .inl ⟨t', r', ex_nil⟩
theorem drawn_ok (ns : List Int) (hl : ns.length ≤ 1000000) (k m : Int) (hk : 0 ≤ k) (hk2 : k < 1000000) (hm : 0 < m) : inR m (runF 3 6 B__law_drawn [.list (ns.map .int), .int k, .int m]) := by
  rw [run1 (np := 3) rfl]
  show inR m (exSs (.cons (.asn (.nm 3) (.bin .mul (.cst (.int 7)) (.slot 1))) _) [.val (.list (ns.map .int)), .val (.int k), .val (.int m), .un, .un, .un]).out
  rw [ex_asn (ev_imul ev_cst (ev_slot rfl) (by simp)) (by simp)]
  show inR m (exSs (.cons (.ife (.cmp .ne (.slot 0) (.lst .nil)) _ _) _) [.val (.list (ns.map .int)), .val (.int k), .val (.int m), .val (.int (7 * k)), .un, .un]).out
  have hc : evE (.cmp .ne (.slot 0) (.lst .nil)) [.val (.list (ns.map .int)), .val (.int k), .val (.int m), .val (.int (7 * k)), .un, .un] = .ok (.bool (!ns.isEmpty)) :=
    ev_cmp (ev_slot rfl) (ev_lst evs_nil (by simp)) (dne_ok (by
      show dEq _ _ = _
      rw [dEq_ok (fine_ints ns) rfl, eqv_nil]))
  rw [ex_ife hc]
  by_cases he : ns = []
  · subst he
    show inR m ((exSs .nil _).andThen (exSs drawnT)).out
    rw [ex_nil]
    exact drawnT_ok _ k m _ _ _ hm
  · have hpos : 0 < ns.length := List.length_pos_iff.mpr he
    have : (!ns.isEmpty) = true := by simpa using he
    rw [this, if_pos rfl]
    have hln : evE (.blt .len (.cons (.slot 0) .nil)) [.val (.list (ns.map .int)), .val (.int k), .val (.int m), .val (.int (7 * k)), .un, .un] = .ok (.int ns.length) := by
      rw [ev_lenL (ev_slot rfl), List.length_map]
    have hb1 : 0 ≤ k % (ns.length : Int) := Int.emod_nonneg _ (by omega)
    have hb2 : k % (ns.length : Int) < ns.length := Int.emod_lt_of_pos _ (by omega)
    obtain ⟨n, hn⟩ := Int.eq_ofNat_of_zero_le hb1
    have hn2 : n < ns.length := by omega
    have hix : evE (.idx (.slot 0) (.bin .mod (.slot 1) (.blt .len (.cons (.slot 0) .nil)))) [.val (.list (ns.map .int)), .val (.int k), .val (.int m), .val (.int (7 * k)), .un, .un] = .ok (.int ns[n]) := by
      refine ev_idx' (ev_slot rfl) (ev_imod (ev_slot rfl) hln (by omega)) ?_
      rw [hn, dIdx, atI_nat (x := .int ns[n]) (by rw [List.getElem?_map, List.getElem?_eq_getElem hn2]; rfl)]
      rfl
    rw [ex_asn hix (by simp)]
    generalize ns[n] = c
    show inR m (Fl.andThen (exSs _ [.val (.list (ns.map .int)), .val (.int k), .val (.int m), .val (.int c), .un, .un]) _).out
    have hj : (decide ((0 : Int) < (ns.length : Int)) && decide ((ns.length : Int).natAbs.log2 < 9000)) = true := by
      have h1 : (ns.length : Int).natAbs.log2 < 9000 := by
        rw [Int.natAbs_natCast]
        exact (Nat.log2_lt (by omega)).mpr (Nat.lt_of_le_of_lt hl (Nat.lt_of_lt_of_le (by decide : 1000000 < 2 ^ 20) (Nat.pow_le_pow_right (by decide) (by decide))))
      rw [decide_eq_true h1, decide_eq_true (by omega)]; rfl
    have hln2 : ∀ s3 s4 s5, evE (.bin .fdiv (.slot 1) (.blt .len (.cons (.slot 0) .nil))) [.val (.list (ns.map .int)), .val (.int k), .val (.int m), s3, s4, s5] = .ok (.int (k / ns.length)) := fun s3 s4 s5 =>
      ev_idiv (ev_slot rfl) (by rw [ev_lenL (ev_slot rfl), List.length_map]) hj
    rw [ex_asn (hln2 _ _ _) (by simp)]
    generalize ht : k / (ns.length : Int) = t at hln2
    have ht0 : 0 ≤ t := by rw [← ht]; exact Int.ediv_nonneg hk (by omega)
    show inR m (Fl.andThen (exSs (.cons (.ife (.and (.cmp .ge (.slot 3) (.bin .pow (.cst (.int 10)) (.cst (.int 18)))) (.cmp .lt (.slot 4) (.cst (.int 60)))) drawnI .nil) (.cons (.asn (.nm 3) (.bin .add (.slot 3) (.bin .mul (.cst (.int 6553)) (.bin .fdiv (.slot 1) (.blt .len (.cons (.slot 0) .nil)))))) .nil)) [.val (.list (ns.map .int)), .val (.int k), .val (.int m), .val (.int c), .val (.int t), .un]) (exSs drawnT)).out
    have hc2 : evE (.and (.cmp .ge (.slot 3) (.bin .pow (.cst (.int 10)) (.cst (.int 18)))) (.cmp .lt (.slot 4) (.cst (.int 60)))) [.val (.list (ns.map .int)), .val (.int k), .val (.int m), .val (.int c), .val (.int t), .un] = .ok (.bool (decide (1000000000000000000 ≤ c) && decide (t < 60))) :=
      ev_and (ev_cmp (ev_slot rfl) (ok_of (ev_ipow ev_cst ev_cst (by decide)) (congrArg PyData.int (by decide))) dLe_int) fun _ => ev_cmp (ev_slot rfl) ev_cst dLt_int
    rw [ex_ife hc2]
    have last : ∀ s4 s5, inR m (Fl.andThen (exSs (.cons (.asn (.nm 3) (.bin .add (.slot 3) (.bin .mul (.cst (.int 6553)) (.bin .fdiv (.slot 1) (.blt .len (.cons (.slot 0) .nil)))))) .nil) [.val (.list (ns.map .int)), .val (.int k), .val (.int m), .val (.int c), s4, s5]) (exSs drawnT)).out := fun s4 s5 => by
      rw [ex_asn (ev_iadd (ev_slot rfl) (ev_imul ev_cst (hln2 _ _ _) (by simp))) (by simp), ex_nil]
      exact drawnT_ok _ k m _ _ _ hm
    by_cases hp : (decide (1000000000000000000 ≤ c) && decide (t < 60)) = true
    · rw [if_pos hp]
      rw [Bool.and_eq_true, decide_eq_true_eq, decide_eq_true_eq] at hp
      rcases drawnI_ok (.val (.list (ns.map .int))) (.val (.int k)) m c t .un hm hp.2 with ⟨t', r', e⟩ | ⟨r, h1, h2, e⟩
      · rw [e]
        exact last _ _
      · rw [e]
        exact ⟨r, h1, h2, rfl⟩
    · rw [if_neg hp, ex_nil]
      exact last _ _
end Fp

set_option Elab.async false
set_option linter.all false
set_option maxRecDepth 100000
set_option maxHeartbeats 1000000
/-! The nets that are drawn. -/
namespace Fp
open PySem L2
section
variable {env : Env} {e : E} {i j : Nat} {x : D} {xs ys : List D} {r : Ss}
theorem ex_own (h : evE e env = .ok (.list xs)) (hi : i < env.length) : exSs (.cons (.own i e) r) env = exSs r (env.set i (.own (.list xs))) := by
  rw [exSs, exS, h]
  show (ofE (setS i _ env)).andThen _ = _
  rw [setS, if_pos hi]
  rfl
theorem ex_app (h : env[i]? = some (.own (.list xs))) (he : evE e env = .ok x) (hl : xs.length < 16777216) : exSs (.cons (.app i e) r) env = exSs r (env.set i (.own (.list (xs ++ [x])))) := by
  have hi : i < env.length := (List.getElem?_eq_some_iff.mp h).1
  rw [exSs, exS, withO, h]
  try dsimp only
  rw [he, ofR]
  try dsimp only
  rw [if_pos hl, setS, if_pos hi]
  rfl
theorem ex_appop {k : Nat} (hij : i ≠ j) (h : env[i]? = some (.own (.list xs))) (h2 : env[j]? = some (.own (.list ys))) (he : evE e env = .ok (.int (k : Int))) (hk : ys[k]? = some x) (hl : xs.length < 16777216) (hl2 : ys.length ≤ 16777216) :
    exSs (.cons (.appop i j e) r) env = exSs r ((env.set j (.own (.list (ys.eraseIdx k)))).set i (.own (.list (xs ++ [x])))) := by
  have hkl := (List.getElem?_eq_some_iff.mp hk).1
  have hix : ixN ys.length (k : Int) = some k := by
    unfold ixN
    rw [if_pos (by omega), if_pos (by omega)]
    rfl
  rw [exSs, exS, withO, h]
  try dsimp only
  rw [withO, h2]
  try dsimp only
  rw [if_neg hij, he, ofR]
  try dsimp only
  rw [hix]
  try dsimp only
  rw [hk]
  try dsimp only
  rw [if_pos ⟨hl, hl2⟩]
  rfl
def forF (tg : Tg) (b : Ss) : D → Env → Fl := fun x env => match asg tg x env with
  | .ok e => exSs b e
  | _ => .no
theorem ex_for {tg : Tg} {it : It} {b : Ss} {env' : Env} (h : evIt it env = .ok xs) (k : forGo (forF tg b) xs env = .nx env') : exSs (.cons (.for tg it b) r) env = exSs r env' := by
  rw [exSs, exS, h]
  show (forGo (forF tg b) xs env).andThen _ = _
  rw [k]
  rfl
end
theorem for_inv {f : D → Env → Fl} {P : Nat → Env → Prop} : ∀ {xs : List D} {n : Nat} {env : Env}, P n env → (∀ i x, xs[i]? = some x → ∀ env, P (n + i) env → ∃ env', f x env = .nx env' ∧ P (n + i + 1) env') → ∃ env', forGo f xs env = .nx env' ∧ P (n + xs.length) env'
  | [], n, env, h, _ => ⟨env, rfl, h⟩
  | x :: xs, n, env, h, st => by
    obtain ⟨env1, e1, h1⟩ := st 0 x rfl env h
    obtain ⟨env2, e2, h2⟩ := for_inv (f := f) (P := P) (xs := xs) (n := n + 1) h1 fun i y hy env he => by
      have hs := st (i + 1) y (by simpa using hy) env (by rw [show n + (i + 1) = n + 1 + i by omega]; exact he)
      rw [show n + (i + 1) + 1 = n + 1 + i + 1 by omega] at hs
      exact hs
    refine ⟨env2, ?_, by rw [List.length_cons, show n + (xs.length + 1) = n + 1 + xs.length by omega]; exact h2⟩
    rw [forGo, e1]
    exact e2
theorem for_rg {tg : Tg} {b : Ss} {P : Nat → Env → Prop} {n : Nat} {env : Env} (h : P 0 env) (st : ∀ i, i < n → ∀ env, P i env → ∃ env', forF tg b (.int (i : Int)) env = .nx env' ∧ P (i + 1) env') : ∃ env', forGo (forF tg b) (rangeD 0 n) env = .nx env' ∧ P n env' := by
  obtain ⟨env', h1, h2⟩ := for_inv (f := forF tg b) (P := P) (xs := rangeD 0 n) (n := 0) h fun i x hx env he => by
    unfold rangeD at hx
    rw [List.getElem?_map] at hx
    obtain ⟨k, hk, rfl⟩ := Option.map_eq_some_iff.mp hx
    have := List.getElem?_eq_some_iff.mp hk
    obtain ⟨hl, rfl⟩ := this
    simp only [List.getElem_range, Int.zero_add, Nat.zero_add] at *
    exact st i (by simpa using hl) env he
  refine ⟨env', h1, ?_⟩
  simpa [rangeD] using h2
/-- the sign at a place -/
def strAt (z : Str) (i : Nat) : D := match z.cps.toList[i]? with
  | some c => .str ⟨#[c]⟩
  | none => .none
theorem dIdx_str {z : Str} {i : Nat} (h : i < z.length) (hz : z.length ≤ 16777216) : dIdx (.str z) (.int (i : Int)) = .ok (strAt z i) := by
  have hl : i < z.cps.toList.length := by simpa [Str.length] using h
  rw [dIdx, if_pos (by simpa using hz), atI_nat (List.getElem?_eq_getElem hl), strAt, List.getElem?_eq_getElem hl]
  rfl
def Drawn (g : List D → R D) (sc : D) : Prop := ∀ k m : Int, 0 ≤ k → k < 1000000 → 0 < m → inR m (g [sc, .int k, .int m])
/-- pipes as they are drawn -/
def GP (ps : List D) (n : Nat) : Prop := ps.length = n ∧ ∀ i, i < n → ∃ l : Int, ps[i]? = some (.tuple [strAt "pqrs" i, .int l]) ∧ 1 ≤ l ∧ l ≤ 3
theorem GP_snoc {ps : List D} {n : Nat} {l : Int} (h : GP ps n) (h1 : 1 ≤ l) (h2 : l ≤ 3) : GP (ps ++ [.tuple [strAt "pqrs" n, .int l]]) (n + 1) := by
  obtain ⟨hl, h⟩ := h
  refine ⟨by simp [hl], fun i hi => ?_⟩
  by_cases hlt : i < n
  · obtain ⟨l, h3, h4⟩ := h i hlt
    exact ⟨l, by rw [List.getElem?_append_left (by omega)]; exact h3, h4⟩
  · have : i = n := by omega
    subst this
    exact ⟨l, by rw [List.getElem?_append_right (by omega), hl, Nat.sub_self]; rfl, h1, h2⟩
/-- a row of names, none twice -/
def GR (ns row : List D) : Prop := 1 ≤ row.length ∧ row.length ≤ 3 ∧ (∀ x ∈ row, x ∈ ns) ∧ row.Nodup
def GW (ns ws : List D) (n : Nat) : Prop := ws.length = n ∧ ∀ i, i < n → ∃ row : List D, ws[i]? = some (.tuple [strAt "abcd" i, .tuple row]) ∧ GR ns row
theorem GW_snoc {ns ws row : List D} {n : Nat} (h : GW ns ws n) (h1 : GR ns row) : GW ns (ws ++ [.tuple [strAt "abcd" n, .tuple row]]) (n + 1) := by
  obtain ⟨hl, h⟩ := h
  refine ⟨by simp [hl], fun i hi => ?_⟩
  by_cases hlt : i < n
  · obtain ⟨l, h3, h4⟩ := h i hlt
    exact ⟨l, by rw [List.getElem?_append_left (by omega)]; exact h3, h4⟩
  · have : i = n := by omega
    subst this
    exact ⟨row, by rw [List.getElem?_append_right (by omega), hl, Nat.sub_self]; rfl, h1⟩
def GNet (d : D) : Prop := ∃ ps ws n m, d = .tuple [.tuple ps, .tuple ws] ∧ GP ps n ∧ GW (ps.map fstD) ws m ∧ 1 ≤ n ∧ n ≤ 4 ∧ 1 ≤ m ∧ m ≤ 4
theorem GP_mem {ps : List D} {n : Nat} (h : GP ps n) {p : D} (hp : p ∈ ps) : ∃ i l, i < n ∧ p = .tuple [strAt "pqrs" i, .int l] ∧ 1 ≤ l ∧ l ≤ 3 := by
  obtain ⟨i, hi, rfl⟩ := List.mem_iff_getElem.mp hp
  have hl := h.1
  obtain ⟨l, h1, h2⟩ := h.2 i (by omega)
  rw [List.getElem?_eq_getElem hi] at h1
  exact ⟨i, l, by omega, Option.some.inj h1, h2⟩
theorem GP_fst {ps : List D} {n i : Nat} (h : GP ps n) (hi : i < n) : (ps.map fstD)[i]? = some (strAt "pqrs" i) := by
  obtain ⟨l, h1, _⟩ := h.2 i hi
  rw [List.getElem?_map, h1]
  rfl
theorem GP_nodup {ps : List D} {n : Nat} (h : GP ps n) (hn : n ≤ 4) : (ps.map fstD).Nodup := by
  have e : ps.map fstD = (List.range n).map (strAt "pqrs") := by
    apply List.ext_getElem?
    intro i
    by_cases hi : i < n
    · rw [GP_fst h hi, List.getElem?_map, List.getElem?_range hi]; rfl
    · rw [List.getElem?_eq_none (by rw [List.length_map]; have := h.1; omega), List.getElem?_eq_none (by simp; omega)]
  rw [e]
  have h0 : ∀ i, i < 4 → ∀ j, j < 4 → PyData.eqv (strAt "pqrs" i) (strAt "pqrs" j) = decide (i = j) := by decide +kernel
  have this : ∀ i j, i < 4 → j < 4 → strAt "pqrs" i = strAt "pqrs" j → i = j := fun i j hi hj he => by
    have h1 := h0 i hi j hj
    rw [← he, h0 i hi i hi] at h1
    simpa using h1
  rw [List.nodup_iff_pairwise_ne, List.pairwise_map]
  refine List.Pairwise.imp_of_mem ?_ List.nodup_range
  intro a b ha hb hne he
  rw [List.mem_range] at ha hb
  exact hne (this a b (by omega) (by omega) he)
end Fp

set_option Elab.async false
set_option linter.all false
set_option maxRecDepth 100000
set_option maxHeartbeats 1000000
/-! _law_net -/
namespace Fp
open PySem L2
theorem ex_par2 {i j : Nat} {a b : E} {xs ys : List D} {env : Env} {r : Ss} (h1 : evE a env = .ok (.list xs)) (h2 : evE b env = .ok (.list ys)) (hi : i < env.length) (hj : j < env.length) :
    exSs (.cons (.par (.cons i true a (.cons j true b .nil))) r) env = exSs r ((env.set i (.own (.list xs))).set j (.own (.list ys))) := by
  have e : evPs (.cons i true a (.cons j true b .nil)) env = .ok [(i, .own (.list xs)), (j, .own (.list ys))] := by
    rw [evPs, h1, R.bind_ok, evPs, h2]
    rfl
  rw [exSs, exS, e]
  show (ofE (setAll _ env)).andThen _ = _
  rw [setAll, setS, if_pos hi, R.bind_ok, setAll, setS, if_pos (by simpa using hj), R.bind_ok, setAll]
  rfl
section
variable {j : Nat} {g : List D → R D} {sc : D} {at' : Int}
theorem drawn_ev {env : Env} {a b c : E} {k m : Int} (hg : Drawn g sc) (h1 : evE a env = .ok sc) (h2 : evE b env = .ok (.int k)) (h3 : evE c env = .ok (.int m)) (hk : 0 ≤ k) (hk2 : k < 1000000) (hm : 0 < m) :
    ∃ r : Nat, (r : Int) < m ∧ evE (.call j g (.cons a (.cons b (.cons c .nil)))) env = .ok (.int (r : Int)) := by
  obtain ⟨r, r1, r2, e⟩ := hg k m hk hk2 hm
  obtain ⟨n, rfl⟩ := Int.eq_ofNat_of_zero_le r1
  exact ⟨n, r2, ev_call' (evs_cons h1 (evs_cons h2 (evs1 h3))) e⟩
theorem it_rgN {env : Env} {a : E} {n : Nat} (h : evE a env = .ok (.int (n : Int))) (h1 : n < 1000000) : evIt (.rg1 a) env = .ok (rangeD 0 n) := it_rg1 h (by omega) (by omega)
def netB1 (j : Nat) (g : List D → R D) : Ss := .cons (.app 2 (.tup (.cons (.idx (.cst (.str "pqrs")) (.slot 3)) (.cons (.bin .add (.cst (.int 1)) (.call j g (.cons (.slot 0) (.cons (.bin .add (.bin .add (.slot 1) (.cst (.int 1))) (.slot 3)) (.cons (.cst (.int 3)) .nil))))) .nil)))) .nil
def NP1 (sc : D) (at' : Int) (n : Nat) (env : Env) : Prop := ∃ ps s3, env = [.val sc, .val (.int at'), .own (.list ps), s3, .un, .un, .un, .un, .un] ∧ GP ps n
theorem net_l1 (hg : Drawn g sc) (h0 : 0 ≤ at') (h1 : at' < 100000) (i : Nat) (hi : i < 4) (env : Env) (h : NP1 sc at' i env) : ∃ env', forF (.nm 3) (netB1 j g) (.int (i : Int)) env = .nx env' ∧ NP1 sc at' (i + 1) env' := by
  obtain ⟨ps, s3, rfl, hp⟩ := h
  have ha : forF (.nm 3) (netB1 j g) (.int (i : Int)) [.val sc, .val (.int at'), .own (.list ps), s3, .un, .un, .un, .un, .un] = exSs (netB1 j g) [.val sc, .val (.int at'), .own (.list ps), .val (.int i), .un, .un, .un, .un, .un] := rfl
  rw [ha]
  obtain ⟨r, r1, e⟩ := drawn_ev (j := j) (env := [.val sc, .val (.int at'), .own (.list ps), .val (.int i), .un, .un, .un, .un, .un]) (a := .slot 0) (b := .bin .add (.bin .add (.slot 1) (.cst (.int 1))) (.slot 3)) (c := .cst (.int 3)) hg (ev_slot rfl) (ev_iadd (ev_iadd (ev_slot rfl) ev_cst) (ev_slot rfl)) ev_cst (by omega) (by omega) (by omega)
  unfold netB1
  rw [ex_app rfl (ev_tup (evs_cons (ev_idx' ev_cst (ev_slot rfl) (dIdx_str (z := "pqrs") (i := i) (Nat.lt_of_lt_of_eq hi (by decide)) (by decide))) (evs1 (ev_iadd ev_cst e))) (by simp)) (by have := hp.1; omega), ex_nil]
  exact ⟨_, rfl, _, _, rfl, GP_snoc hp (by omega) (by omega)⟩
def netB3 (j : Nat) (g : List D → R D) : Ss := .cons (.appop 6 5 (.call j g (.cons (.slot 0) (.cons (.bin .add (.bin .add (.bin .add (.slot 1) (.cst (.int 7))) (.bin .mul (.cst (.int 4)) (.slot 3))) (.slot 8)) (.cons (.blt .len (.cons (.bor 5) .nil)) .nil))))) .nil
def NP3 (sc : D) (at' : Int) (ps ws : List D) (k : Nat) (n : Nat) (env : Env) : Prop := ∃ left row s8, env = [.val sc, .val (.int at'), .own (.list ps), .val (.int k), .own (.list ws), .own (.list left), .own (.list row), .un, s8] ∧ row.length = n ∧ (row ++ left).Perm (ps.map fstD)
theorem erase_perm : ∀ {xs : List D} {r : Nat} (h : r < xs.length), ([xs[r]] ++ xs.eraseIdx r).Perm xs
  | x :: xs, 0, _ => List.Perm.refl _
  | x :: xs, r + 1, h => by
    have ih := erase_perm (xs := xs) (r := r) (by simpa using h)
    rw [List.eraseIdx_cons_succ, List.getElem_cons_succ]
    exact (List.Perm.swap _ _ _).trans (List.Perm.cons x ih)
theorem perm_pop {row left ns : List D} {r : Nat} {x : D} (h : (row ++ left).Perm ns) (hx : left[r]? = some x) : ((row ++ [x]) ++ left.eraseIdx r).Perm ns := by
  refine List.Perm.trans ?_ h
  rw [List.append_assoc]
  refine List.Perm.append_left row ?_
  obtain ⟨hl, rfl⟩ := List.getElem?_eq_some_iff.mp hx
  exact erase_perm hl
theorem net_l3 {ps ws : List D} {k : Nat} (hg : Drawn g sc) (h0 : 0 ≤ at') (h1 : at' < 100000) (hk : k < 4) (hps : ps.length ≤ 4) (i : Nat) (hi : i < ps.length) (env : Env) (h : NP3 sc at' ps ws k i env) : ∃ env', forF (.nm 8) (netB3 j g) (.int (i : Int)) env = .nx env' ∧ NP3 sc at' ps ws k (i + 1) env' := by
  obtain ⟨left, row, s8, rfl, hr, hp⟩ := h
  have hlen := hp.length_eq
  rw [List.length_append, List.length_map] at hlen
  have ha : forF (.nm 8) (netB3 j g) (.int (i : Int)) [.val sc, .val (.int at'), .own (.list ps), .val (.int k), .own (.list ws), .own (.list left), .own (.list row), .un, s8] = exSs (netB3 j g) [.val sc, .val (.int at'), .own (.list ps), .val (.int k), .own (.list ws), .own (.list left), .own (.list row), .un, .val (.int i)] := rfl
  rw [ha]
  obtain ⟨r, r1, e⟩ := drawn_ev (j := j) (env := [.val sc, .val (.int at'), .own (.list ps), .val (.int k), .own (.list ws), .own (.list left), .own (.list row), .un, .val (.int i)]) (a := .slot 0) (b := .bin .add (.bin .add (.bin .add (.slot 1) (.cst (.int 7))) (.bin .mul (.cst (.int 4)) (.slot 3))) (.slot 8)) (c := .blt .len (.cons (.bor 5) .nil)) hg (ev_slot rfl)
    (ev_iadd (ev_iadd (ev_iadd (ev_slot rfl) ev_cst) (ev_imul ev_cst (ev_slot rfl) (by simp))) (ev_slot rfl)) (ev_lenL (ev_boro rfl)) (by omega) (by omega) (by omega)
  have hx : left[r]? = some left[r] := List.getElem?_eq_getElem (by omega)
  unfold netB3
  rw [ex_appop (k := r) (by decide) rfl rfl e hx (by omega) (by omega), ex_nil]
  exact ⟨_, rfl, _, _, _, rfl, by simp [hr], perm_pop hp hx⟩
def netB2 (j : Nat) (g : List D → R D) : Ss := .cons (.par (.cons 5 true (.lc [7] (.nm 7) (.dat (.bor 2)) .nil (.idx (.slot 7) (.cst (.int 0)))) (.cons 6 true (.lst .nil) .nil)))
 (.cons (.for (.nm 8) (.rg1 (.bin .add (.cst (.int 1)) (.call j g (.cons (.slot 0) (.cons (.bin .add (.bin .add (.slot 1) (.cst (.int 6))) (.bin .mul (.cst (.int 4)) (.slot 3))) (.cons (.blt .min2 (.cons (.cst (.int 3)) (.cons (.blt .len (.cons (.bor 2) .nil)) .nil))) .nil)))))) (netB3 j g))
 (.cons (.app 4 (.tup (.cons (.idx (.cst (.str "abcd")) (.slot 3)) (.cons (.blt .tuple (.cons (.bor 6) .nil)) .nil))))
 .nil))
def NP2 (sc : D) (at' : Int) (ps : List D) (n : Nat) (env : Env) : Prop := ∃ ws s3 s5 s6 s8, env = [.val sc, .val (.int at'), .own (.list ps), s3, .own (.list ws), s5, s6, .un, s8] ∧ GW (ps.map fstD) ws n
theorem net_l2 {ps : List D} {n : Nat} (hg : Drawn g sc) (h0 : 0 ≤ at') (h1 : at' < 100000) (hps : GP ps n) (hn : 1 ≤ n) (hn4 : n ≤ 4) (i : Nat) (hi : i < 4) (env : Env) (h : NP2 sc at' ps i env) : ∃ env', forF (.nm 3) (netB2 j g) (.int (i : Int)) env = .nx env' ∧ NP2 sc at' ps (i + 1) env' := by
  obtain ⟨ws, s3, s5, s6, s8, rfl, hw⟩ := h
  have hpl := hps.1
  have ha : forF (.nm 3) (netB2 j g) (.int (i : Int)) [.val sc, .val (.int at'), .own (.list ps), s3, .own (.list ws), s5, s6, .un, s8] = exSs (netB2 j g) [.val sc, .val (.int at'), .own (.list ps), .val (.int i), .own (.list ws), s5, s6, .un, s8] := rfl
  rw [ha]
  have i0 : ∀ x ∈ ps, dIdx x (.int 0) = .ok (fstD x) := fun x hx => by
    obtain ⟨i, l, _, rfl, _⟩ := GP_mem hps hx
    rfl
  unfold netB2
  rw [ex_par2 (ev_lc (g := fstD) (it_dat (ev_boro rfl) rfl) (by omega) fun x hx => ⟨_, rfl, ev_idx' (ev_slot rfl) ev_cst (i0 x hx)⟩) (ev_lst evs_nil (by simp)) (by simp) (by simp)]
  show ∃ env', exSs _ [.val sc, .val (.int at'), .own (.list ps), .val (.int i), .own (.list ws), .own (.list (ps.map fstD)), .own (.list []), .un, s8] = _ ∧ _
  have hmin : evE (.blt .min2 (.cons (.cst (.int 3)) (.cons (.blt .len (.cons (.bor 2) .nil)) .nil))) [.val sc, .val (.int at'), .own (.list ps), .val (.int i), .own (.list ws), .own (.list (ps.map fstD)), .own (.list []), .un, s8] = .ok (.int (if (ps.length : Int) < 3 then (ps.length : Int) else 3)) :=
    ev_blt' (evs_cons ev_cst (evs1 (ev_lenL (ev_boro rfl)))) rfl
  obtain ⟨r, r1, e⟩ := drawn_ev (j := j) (b := .bin .add (.bin .add (.slot 1) (.cst (.int 6))) (.bin .mul (.cst (.int 4)) (.slot 3))) hg (ev_slot (i := 0) rfl) (ev_iadd (ev_iadd (ev_slot rfl) ev_cst) (ev_imul ev_cst (ev_slot rfl) (by simp))) hmin (by omega) (by omega) (by split <;> omega)
  have hr3 : r < 3 := by split at r1 <;> omega
  have hrp : r < ps.length := by split at r1 <;> omega
  obtain ⟨env', e1, left, row, s8', rfl, hrl, hperm⟩ := for_rg (n := 1 + r) (tg := .nm 8) (b := netB3 j g) (P := NP3 sc at' ps ws i) (env := [.val sc, .val (.int at'), .own (.list ps), .val (.int i), .own (.list ws), .own (.list (ps.map fstD)), .own (.list []), .un, s8])
    ⟨_, _, _, rfl, rfl, List.Perm.refl _⟩ fun m hm env he => net_l3 hg h0 h1 hi (by omega) m (by omega) env he
  rw [ex_for (it_rgN (n := 1 + r) (ok_of (ev_iadd ev_cst e) (by simp)) (by omega)) e1]
  have hnd : row.Nodup := by
    have := hperm.symm.nodup (GP_nodup hps hn4)
    exact (List.nodup_append.mp this).1
  have hsub : ∀ x ∈ row, x ∈ ps.map fstD := fun x hx => hperm.subset (List.mem_append_left _ hx)
  rw [ex_app rfl (ev_tup (evs_cons (ev_idx' ev_cst (ev_slot rfl) (dIdx_str (z := "abcd") (i := i) (Nat.lt_of_lt_of_eq hi (by decide)) (by decide))) (evs1 (ev_blt' (evs1 (ev_boro rfl)) rfl))) (by simp)) (by have := hw.1; omega), ex_nil]
  exact ⟨_, rfl, _, _, _, _, _, rfl, GW_snoc hw ⟨by omega, by omega, hsub, hnd⟩⟩
theorem net_ok (hg : Drawn g sc) (h0 : 0 ≤ at') (h1 : at' < 100000) : ∃ d, runF 2 9 (B__law_net j g) [sc, .int at'] = .ok d ∧ GNet d := by
  rw [run1 (np := 2) rfl]
  show ∃ d, (exSs (.cons (.own 2 (.lst .nil)) (.cons (.for (.nm 3) (.rg1 (.bin .add (.cst (.int 1)) (.call j g (.cons (.slot 0) (.cons (.slot 1) (.cons (.cst (.int 4)) .nil)))))) (netB1 j g))
    (.cons (.own 4 (.lst .nil)) (.cons (.for (.nm 3) (.rg1 (.bin .add (.cst (.int 1)) (.call j g (.cons (.slot 0) (.cons (.bin .add (.slot 1) (.cst (.int 5))) (.cons (.cst (.int 4)) .nil)))))) (netB2 j g)) _))))
    [.val sc, .val (.int at'), .un, .un, .un, .un, .un, .un, .un]).out = _ ∧ _
  rw [ex_own (ev_lst evs_nil (by simp)) (by simp)]
  obtain ⟨r, r1, e⟩ := drawn_ev (j := j) (env := [.val sc, .val (.int at'), .own (.list []), .un, .un, .un, .un, .un, .un]) (c := .cst (.int 4)) hg (ev_slot (i := 0) rfl) (ev_slot (i := 1) rfl) ev_cst (by omega) (by omega) (by omega)
  obtain ⟨env', e1, ps, s3, rfl, hps⟩ := for_rg (n := 1 + r) (tg := .nm 3) (b := netB1 j g) (P := NP1 sc at') (env := [.val sc, .val (.int at'), .own (.list []), .un, .un, .un, .un, .un, .un])
    ⟨_, _, rfl, rfl, fun i hi => by omega⟩ fun m hm env he => net_l1 hg h0 h1 m (by omega) env he
  show ∃ d, (exSs _ [.val sc, .val (.int at'), .own (.list []), .un, .un, .un, .un, .un, .un]).out = _ ∧ _
  rw [ex_for (it_rgN (n := 1 + r) (ok_of (ev_iadd ev_cst e) (by simp)) (by omega)) e1]
  rw [ex_own (ev_lst evs_nil (by simp)) (by simp)]
  show ∃ d, (exSs _ [.val sc, .val (.int at'), .own (.list ps), s3, .own (.list []), .un, .un, .un, .un]).out = _ ∧ _
  obtain ⟨r', r2, e2⟩ := drawn_ev (j := j) (env := [.val sc, .val (.int at'), .own (.list ps), s3, .own (.list []), .un, .un, .un, .un]) (c := .cst (.int 4)) hg (ev_slot (i := 0) rfl) (ev_iadd (ev_slot (i := 1) rfl) (ev_cst (d := .int 5))) ev_cst (by omega) (by omega) (by omega)
  obtain ⟨env', e3, ws, s3', s5, s6, s8, rfl, hws⟩ := for_rg (n := 1 + r') (tg := .nm 3) (b := netB2 j g) (P := NP2 sc at' ps) (env := [.val sc, .val (.int at'), .own (.list ps), s3, .own (.list []), .un, .un, .un, .un])
    ⟨_, _, _, _, _, rfl, rfl, fun i hi => by omega⟩ fun m hm env he => net_l2 hg h0 h1 hps (by omega) (by omega) m (by omega) env he
  rw [ex_for (it_rgN (n := 1 + r') (ok_of (ev_iadd ev_cst e2) (by simp)) (by omega)) e3]
  rw [ret1, ev_tup (evs_cons (ev_blt' (evs1 (ev_boro rfl)) rfl) (evs1 (ev_blt' (evs1 (ev_boro rfl)) rfl))) (by simp)]
  exact ⟨_, rfl, ps, ws, 1 + r, 1 + r', rfl, hps, hws, by omega, by omega, by omega, by omega⟩
end
end Fp

set_option Elab.async false
set_option linter.all false
set_option maxRecDepth 100000
set_option maxHeartbeats 1000000
/-! _law_state -/
namespace Fp
open PySem L2
theorem ev_lc_ex {own : List Nat} {tg : Tg} {it : It} {e : E} {env : Env} {xs : List D} {Q : D → Prop} (hi : evIt it env = .ok xs) (hl : xs.length ≤ 16777216) (h : ∀ x ∈ xs, ∃ env' y, asg tg x (wipeE env own) = .ok env' ∧ evE e env' = .ok y ∧ Q y) :
    ∃ ys, evE (.lc own tg it .nil e) env = .ok (.list ys) ∧ ys.length = xs.length ∧ ∀ y ∈ ys, Q y := by
  have h' : ∀ x, ∃ y, x ∈ xs → ∃ env', asg tg x (wipeE env own) = .ok env' ∧ evE e env' = .ok y ∧ Q y := fun x => by
    by_cases hx : x ∈ xs
    · obtain ⟨env', y, h1⟩ := h x hx
      exact ⟨y, fun _ => ⟨env', h1⟩⟩
    · exact ⟨.none, fun k => absurd k hx⟩
  refine ⟨xs.map fun x => Classical.choose (h' x), ev_lc hi hl fun x hx => ?_, by simp, fun y hy => ?_⟩
  · obtain ⟨env', h1, h2, _⟩ := Classical.choose_spec (h' x) hx
    exact ⟨env', h1, h2⟩
  · obtain ⟨x, hx, rfl⟩ := List.mem_map.mp hy
    obtain ⟨_, _, _, h3⟩ := Classical.choose_spec (h' x) hx
    exact h3
def slugs : List D := [.str "x", .str "y", .str "z", .str "oil"]
/-- a row as it is drawn -/
def SR (p d : D) : Prop := ∃ xs : List D, d = .tuple xs ∧ (xs.length : Int) = intD (sndD p) ∧ ∀ x ∈ xs, x ∈ slugs
def GS (ps rows : List D) (n : Nat) : Prop := rows.length = n ∧ ∀ i, i < n → ∃ p r, ps[i]? = some p ∧ rows[i]? = some r ∧ SR p r
theorem GS_snoc {ps rows : List D} {n : Nat} {p r : D} (h : GS ps rows n) (hp : ps[n]? = some p) (h1 : SR p r) : GS ps (rows ++ [r]) (n + 1) := by
  obtain ⟨hl, h⟩ := h
  refine ⟨by simp [hl], fun i hi => ?_⟩
  by_cases hlt : i < n
  · obtain ⟨p, r, h3, h4, h5⟩ := h i hlt
    exact ⟨p, r, h3, by rw [List.getElem?_append_left (by omega)]; exact h4, h5⟩
  · have : i = n := by omega
    subst this
    exact ⟨p, r, hp, by rw [List.getElem?_append_right (by omega), hl, Nat.sub_self]; rfl, h1⟩
def GState (ps : List D) (d : D) : Prop := ∃ rows, d = .tuple rows ∧ GS ps rows ps.length
section
variable {j : Nat} {g : List D → R D} {sc : D} {at' : Int}
def dstB (j : Nat) (g : List D → R D) : Ss := .cons (.app 3 (.blt .tuple (.cons (.lc [7] (.nm 7) (.rg1 (.slot 6)) .nil (.idx (.lst (.cons (.cst (.str "x")) (.cons (.cst (.str "y")) (.cons (.cst (.str "z")) (.cons (.cst (.str "oil")) .nil))))) (.call j g (.cons (.slot 0) (.cons (.bin .add (.bin .add (.slot 1) (.slot 4)) (.slot 7)) (.cons (.cst (.int 4)) .nil)))))) .nil)))
 (.cons (.asn (.nm 4) (.bin .add (.slot 4) (.slot 6)))
 .nil)
def SP (sc : D) (at' : Int) (net : D) (ps : List D) (n : Nat) (env : Env) : Prop := ∃ rows k s5 s6, env = [.val sc, .val (.int at'), .val net, .own (.list rows), .val (.int k), s5, s6, .un] ∧ GS ps rows n ∧ 0 ≤ k ∧ k ≤ 4 * n
theorem st_l {net : D} {ps : List D} {n : Nat} (hg : Drawn g sc) (h0 : 0 ≤ at') (h1 : at' < 100000) (hps : GP ps n) (hn : n ≤ 6) (i : Nat) (x : D) (hx : ps[i]? = some x) (env : Env) (h : SP sc at' net ps i env) : ∃ env', forF (.t2 (.nm 5) (.nm 6)) (dstB j g) x env = .nx env' ∧ SP sc at' net ps (i + 1) env' := by
  obtain ⟨rows, k, s5, s6, rfl, hr, hk1, hk2⟩ := h
  have hil := (List.getElem?_eq_some_iff.mp hx).1
  have hpl := hps.1
  obtain ⟨_, l, _, rfl, hl1, hl2⟩ := GP_mem hps (List.mem_of_getElem? hx)
  rename_i i' _
  generalize hnm : strAt "pqrs" i' = nm at hx ⊢
  have ha : forF (.t2 (.nm 5) (.nm 6)) (dstB j g) (.tuple [nm, .int l]) [.val sc, .val (.int at'), .val net, .own (.list rows), .val (.int k), s5, s6, .un] = exSs (dstB j g) [.val sc, .val (.int at'), .val net, .own (.list rows), .val (.int k), .val nm, .val (.int l), .un] := rfl
  rw [ha]
  obtain ⟨ln, rfl⟩ := Int.eq_ofNat_of_zero_le (Int.le_trans (by decide : (0 : Int) ≤ 1) hl1)
  obtain ⟨ys, e1, e2, e3⟩ := ev_lc_ex (own := [7]) (tg := .nm 7) (it := .rg1 (.slot 6)) (e := .idx (.lst (.cons (.cst (.str "x")) (.cons (.cst (.str "y")) (.cons (.cst (.str "z")) (.cons (.cst (.str "oil")) .nil))))) (.call j g (.cons (.slot 0) (.cons (.bin .add (.bin .add (.slot 1) (.slot 4)) (.slot 7)) (.cons (.cst (.int 4)) .nil)))))
    (env := [.val sc, .val (.int at'), .val net, .own (.list rows), .val (.int k), .val nm, .val (.int ln), .un]) (Q := fun x => x ∈ slugs) (it_rgN (n := ln) (ev_slot rfl) (by omega)) (by simp [rangeD]; omega) fun y hy => by
      obtain ⟨m, hm, rfl⟩ := List.mem_map.mp hy
      have hm := List.mem_range.mp hm
      obtain ⟨r, r1, e⟩ := drawn_ev (j := j) (env := [.val sc, .val (.int at'), .val net, .own (.list rows), .val (.int k), .val nm, .val (.int ln), .val (.int (0 + (m : Int)))]) (a := .slot 0) (b := .bin .add (.bin .add (.slot 1) (.slot 4)) (.slot 7)) (c := .cst (.int 4)) hg (ev_slot rfl) (ev_iadd (ev_iadd (ev_slot rfl) (ev_slot rfl)) (ev_slot rfl)) ev_cst (by omega) (by omega) (by omega)
      have hr4 : r < slugs.length := by simp [slugs]; omega
      refine ⟨_, slugs[r], rfl, ev_idx' (ev_lst (evs_cons ev_cst (evs_cons ev_cst (evs_cons ev_cst (evs1 ev_cst)))) (by simp)) e ?_, List.getElem_mem _⟩
      show ofO (atI slugs (r : Int)) = _
      rw [atI_nat (List.getElem?_eq_getElem hr4)]
      rfl
  unfold dstB
  rw [ex_app rfl (ev_blt' (v := .tuple ys) (evs1 e1) rfl) (by have := hr.1; omega)]
  show ∃ env', exSs _ [.val sc, .val (.int at'), .val net, .own (.list (rows ++ [.tuple ys])), .val (.int k), .val nm, .val (.int ln), .un] = _ ∧ _
  rw [ex_asn (ev_iadd (ev_slot rfl) (ev_slot rfl)) (by simp), ex_nil]
  refine ⟨_, rfl, _, _, _, _, rfl, GS_snoc hr hx ⟨ys, rfl, ?_, e3⟩, by omega, by omega⟩
  rw [e2]
  simp [rangeD, sndD, intD]
theorem state_ok {ps : List D} {w : D} {n : Nat} (hg : Drawn g sc) (h0 : 0 ≤ at') (h1 : at' < 100000) (hps : GP ps n) (hn : n ≤ 6) : ∃ d, runF 3 8 (B__law_state j g) [sc, .int at', .tuple [.tuple ps, w]] = .ok d ∧ GState ps d := by
  rw [run1 (np := 3) rfl]
  show ∃ d, (exSs (.cons (.par (.cons 3 true (.lst .nil) (.cons 4 false (.cst (.int 0)) .nil))) (.cons (.for (.t2 (.nm 5) (.nm 6)) (.dat (.idx (.slot 2) (.cst (.int 0)))) (dstB j g)) _)) [.val sc, .val (.int at'), .val (.tuple [.tuple ps, w]), .un, .un, .un, .un, .un]).out = _ ∧ _
  have hp : exSs (.cons (.par (.cons 3 true (.lst .nil) (.cons 4 false (.cst (.int 0)) .nil))) .nil) [.val sc, .val (.int at'), .val (.tuple [.tuple ps, w]), .un, .un, .un, .un, .un] = .nx [.val sc, .val (.int at'), .val (.tuple [.tuple ps, w]), .own (.list []), .val (.int 0), .un, .un, .un] := rfl
  rw [exSs] at hp ⊢
  have hp2 : exS (.par (.cons 3 true (.lst .nil) (.cons 4 false (.cst (.int 0)) .nil))) [.val sc, .val (.int at'), .val (.tuple [.tuple ps, w]), .un, .un, .un, .un, .un] = .nx [.val sc, .val (.int at'), .val (.tuple [.tuple ps, w]), .own (.list []), .val (.int 0), .un, .un, .un] := rfl
  rw [hp2]
  obtain ⟨env', e1, rows, k, s5, s6, rfl, hr, _⟩ := for_inv (f := forF (.t2 (.nm 5) (.nm 6)) (dstB j g)) (P := SP sc at' (.tuple [.tuple ps, w]) ps) (xs := ps) (n := 0) (env := [.val sc, .val (.int at'), .val (.tuple [.tuple ps, w]), .own (.list []), .val (.int 0), .un, .un, .un])
    ⟨_, _, _, _, rfl, ⟨rfl, fun i hi => by omega⟩, by omega, by omega⟩ fun i x hx env he => by
      rw [Nat.zero_add] at he ⊢
      exact st_l hg h0 h1 hps hn i x hx env he
  show ∃ d, (exSs _ [.val sc, .val (.int at'), .val (.tuple [.tuple ps, w]), .own (.list []), .val (.int 0), .un, .un, .un]).out = _ ∧ _
  rw [ex_for (it_dat (ev_idx' (ev_slot rfl) ev_cst dIdxT0) rfl) e1, ret1, ev_blt' (v := .tuple rows) (evs1 (ev_boro rfl)) rfl]
  rw [Nat.zero_add] at hr
  exact ⟨_, rfl, rows, rfl, hr⟩
end
end Fp

set_option Elab.async false
set_option linter.all false
set_option maxRecDepth 100000
set_option maxHeartbeats 1000000
/-! Nets that are none. -/
namespace Fp
open PySem L2
/-- tame: plain, not deep, not large -/
def Tm (k : Nat) (d : D) : Prop := d.plain = true ∧ d.depth ≤ k ∧ sz d = true
theorem Tm_all {k : Nat} : ∀ {xs : List D}, (∀ x ∈ xs, Tm k x) → PyData.plainAll xs = true ∧ PyData.depthAll xs ≤ k ∧ szAll xs = true
  | [], _ => ⟨rfl, Nat.zero_le _, rfl⟩
  | x :: xs, h => by
    obtain ⟨i1, i2, i3⟩ := Tm_all fun y hy => h y (List.mem_cons_of_mem _ hy)
    obtain ⟨j1, j2, j3⟩ := h x List.mem_cons_self
    refine ⟨?_, ?_, ?_⟩
    · rw [PyData.plainAll, j1, i1]; rfl
    · rw [PyData.depthAll]; omega
    · rw [szAll, j3, i3]; rfl
theorem Tm_tuple {k : Nat} {xs : List D} (hl : xs.length ≤ 1000000) (h : ∀ x ∈ xs, Tm k x) : Tm (k + 1) (.tuple xs) := by
  obtain ⟨i1, i2, i3⟩ := Tm_all h
  refine ⟨by rw [PyData.plain]; exact i1, by rw [PyData.depth]; omega, ?_⟩
  rw [sz, decide_eq_true hl, i3]; rfl
theorem Tm_list {k : Nat} {xs : List D} (hl : xs.length ≤ 1000000) (h : ∀ x ∈ xs, Tm k x) : Tm (k + 1) (.list xs) := by
  obtain ⟨i1, i2, i3⟩ := Tm_all h
  refine ⟨by rw [PyData.plain]; exact i1, by rw [PyData.depth]; omega, ?_⟩
  rw [sz, decide_eq_true hl, i3]; rfl
theorem Tm_mono {k m : Nat} {d : D} (h : Tm k d) (hk : k ≤ m) : Tm m d := ⟨h.1, Nat.le_trans h.2.1 hk, h.2.2⟩
theorem Tm_fine {k : Nat} {d : D} (h : Tm k d) (hk : k ≤ 60) : fine d = true := by
  unfold fine
  rw [h.1, decide_eq_true (Nat.le_trans h.2.1 hk)]; rfl
theorem Tm_int {k : Nat} {i : Int} : Tm k (.int i) := ⟨rfl, Nat.zero_le _, rfl⟩
theorem Tm_bool {k : Nat} {b : Bool} : Tm k (.bool b) := ⟨rfl, Nat.zero_le _, rfl⟩
theorem Tm_none {k : Nat} : Tm k .none := ⟨rfl, Nat.zero_le _, rfl⟩
theorem Tm_str {k : Nat} {z : Str} (h : decide (z.length ≤ 1000000) = true) : Tm k (.str z) := ⟨rfl, Nat.zero_le _, h⟩
theorem Tm_nil {k : Nat} : ∀ x ∈ ([] : List D), Tm k x := fun _ h => nomatch h
theorem Tm_cons {k : Nat} {x : D} {xs : List D} (h : Tm k x) (h2 : ∀ y ∈ xs, Tm k y) : ∀ y ∈ x :: xs, Tm k y := fun y hy => by
  rcases List.mem_cons.mp hy with rfl | hy
  · exact h
  · exact h2 y hy
theorem Tm_app {k : Nat} {xs ys : List D} (h : ∀ y ∈ xs, Tm k y) (h2 : ∀ y ∈ ys, Tm k y) : ∀ y ∈ xs ++ ys, Tm k y := fun y hy => by
  rcases List.mem_append.mp hy with hy | hy
  · exact h y hy
  · exact h2 y hy
theorem Tm_alls {k m : Nat} {xs : List D} (h : ∀ x ∈ xs, Tm k x) (hk : k ≤ m) : ∀ x ∈ xs, Tm m x := fun x hx => Tm_mono (h x hx) hk
/-- none of the nets -/
def Bad (d : D) : Prop := isNet d = false ∧ Tm 10 d
theorem bad_pipes {ps ws : List D} (h : arePipes (.tuple ps) = false) : isNet (.tuple [.tuple ps, .tuple ws]) = false := by rw [isNet, h]; rfl
theorem bad_pair {x : D} {ps : List D} (h : isPair x = false) : arePipes (.tuple (x :: ps)) = false := by
  rw [arePipes, List.all_cons, h]
  simp
theorem bad_whole {x : D} {ps : List D} (h : isWhole (sndD x) 1 4 = false) : arePipes (.tuple (x :: ps)) = false := by
  have e : (x :: ps).all (fun p => isWhole (sndD p) 1 4) = false := by rw [List.all_cons, h]; rfl
  rw [arePipes, e]
  simp
theorem bad_ris {ps : List D} (h : risD (ps.map fstD) = false) : arePipes (.tuple ps) = false := by
  rw [arePipes, h]
  simp
theorem bad_way {ps ws : List D} {w : D} (hw : w ∈ ws) (h : (isPair w && isRow (ps.map fstD) (sndD w)) = false) : isNet (.tuple [.tuple ps, .tuple ws]) = false := by
  have : ws.all (fun w => isPair w && isRow (ps.map fstD) (sndD w)) = false := by
    rw [List.all_eq_false]
    exact ⟨w, hw, by rw [h]; simp⟩
  rw [isNet, this]
  simp
theorem bad_wris {ps ws : List D} (h : risD (ws.map fstD) = false) : isNet (.tuple [.tuple ps, .tuple ws]) = false := by
  rw [isNet, h]
  simp
theorem bad_wlen {ps ws : List D} (h : (decide (1 ≤ ws.length) && decide (ws.length ≤ 8)) = false) : isNet (.tuple [.tuple ps, .tuple ws]) = false := by
  rw [isNet, h]
  simp
theorem bad_row {ns : List D} {w x : D} (h : isRow ns x = false) : (isPair (.tuple [w, x]) && isRow ns (sndD (.tuple [w, x]))) = false := by
  show (_ && isRow ns x) = false
  rw [h, Bool.and_false]
theorem cut_one (w : D) (zs : List D) : cutD (w :: zs) (some 1) none = zs := by
  have h1 : HT.sIx (w :: zs).length 0 (some 1) = 1 := by
    have := HT.sIx_nat (w :: zs).length 0 1
    rw [show ((1 : Nat) : Int) = 1 from rfl] at this
    rw [this]; simp
  unfold cutD
  rw [h1]
  simp [HT.sIx]
theorem cut_last (ws : List D) (w : D) : cutD (ws ++ [w]) none (some (-1)) = ws := by
  have e1 : HT.sIx (ws ++ [w]).length (ws ++ [w]).length (some (-1)) = ws.length := by
    show (if (-1 : Int) < 0 then ((-1 : Int) + ((ws ++ [w]).length : Nat)).toNat else min ((-1 : Int)).toNat (ws ++ [w]).length) = _
    rw [if_pos (by decide), List.length_append]
    simp
    omega
  unfold cutD
  rw [e1, HT.sIx_none, List.drop_zero, Nat.sub_zero, List.take_left']
  rfl
theorem idx_last (ws : List D) (w : D) : dIdx (.tuple (ws ++ [w])) (.int (-1)) = .ok w := by
  rw [dIdx]
  unfold atI ixN
  rw [if_neg (by decide), if_pos (by rw [List.length_append]; simp; omega)]
  have : ((-1 : Int) + ((ws ++ [w]).length : Nat)).toNat = ws.length := by
    rw [List.length_append]; simp; omega
  rw [this]
  simp [ofO]
theorem GP_four {ps : List D} {n : Nat} (h : GP ps n) (h1 : 1 ≤ n) (h4 : n ≤ 4) : ∃ a b c d : Int, ps = [.tuple [.str "p", .int a], .tuple [.str "q", .int b], .tuple [.str "r", .int c], .tuple [.str "s", .int d]].take n ∧ (1 ≤ a ∧ a ≤ 3) ∧ (1 ≤ b ∧ b ≤ 3) ∧ (1 ≤ c ∧ c ≤ 3) ∧ (1 ≤ d ∧ d ≤ 3) := by
  have H : ∀ i, ∃ l : Int, (i < n → ps[i]? = some (.tuple [strAt "pqrs" i, .int l])) ∧ 1 ≤ l ∧ l ≤ 3 := fun i => by
    by_cases hi : i < n
    · obtain ⟨l, h1, h2⟩ := h.2 i hi
      exact ⟨l, fun _ => h1, h2⟩
    · exact ⟨1, fun k => absurd k hi, by decide, by decide⟩
  obtain ⟨a, ha, ka⟩ := H 0
  obtain ⟨b, hb, kb⟩ := H 1
  obtain ⟨c, hc, kc⟩ := H 2
  obtain ⟨d, hd, kd⟩ := H 3
  refine ⟨a, b, c, d, ?_, ka, kb, kc, kd⟩
  have hl := h.1
  apply List.ext_getElem?
  intro i
  by_cases hi : i < n
  · rw [List.getElem?_take_of_lt hi]
    match i with
    | 0 => exact ha hi
    | 1 => exact hb hi
    | 2 => exact hc hi
    | 3 => exact hd hi
    | i + 4 => omega
  · rw [List.getElem?_eq_none (by omega), List.getElem?_eq_none (by rw [List.length_take]; omega)]
end Fp

set_option Elab.async false
set_option linter.all false
set_option maxRecDepth 100000
set_option maxHeartbeats 1000000
/-! _law_bad -/
namespace Fp
open PySem L2
def GB (bs : List D) (n : Nat) : Prop := bs.length ≤ n ∧ ∀ b ∈ bs, Bad b
theorem GB_app {bs cs : List D} {n m : Nat} (h : GB bs n) (hl : cs.length = m) (h2 : ∀ b ∈ cs, Bad b) : GB (bs ++ cs) (n + m) := by
  refine ⟨by rw [List.length_append]; have := h.1; omega, fun b hb => ?_⟩
  rcases List.mem_append.mp hb with hb | hb
  · exact h.2 b hb
  · exact h2 b hb
theorem all_nil {P : D → Prop} : ∀ b ∈ ([] : List D), P b := fun _ h => nomatch h
theorem all_cons {P : D → Prop} {x : D} {xs : List D} (h : P x) (h2 : ∀ y ∈ xs, P y) : ∀ y ∈ x :: xs, P y := fun y hy => by
  rcases List.mem_cons.mp hy with rfl | hy
  · exact h
  · exact h2 y hy
/-- what the drawn net's parts are -/
structure NetP (p0 : D) (pr wi : List D) (wl wn : D) (row : List D) (a : Int) : Prop where
  ep : p0 = .tuple [.str "p", .int a]
  a1 : 1 ≤ a
  a2 : a ≤ 3
  pl : pr.length ≤ 3
  pt : ∀ x ∈ pr, Tm 2 x
  rv : arePipes (.tuple (repD (p0 :: pr).reverse 2)) = false
  zz : inD (.str "zz") ((p0 :: pr).map fstD) = false
  pp : inD (.str "p") ((p0 :: pr).map fstD) = true
  ew : wl = .tuple [wn, .tuple row]
  wil : wi.length ≤ 3
  wt : ∀ x ∈ wi, Tm 3 x
  wlt : Tm 3 wl
  wnt : Tm 2 wn
section
variable {p0 wl wn : D} {pr wi row : List D} {a : Int}
def nm : D := .str "p"
def list5 : List D := [.tuple [nm, .int 0], .tuple [nm, .int 5], .tuple [nm, .bool true], .tuple [nm, .str "1"], .tuple [nm]]
def list5b : List D := [.tuple [.str "", .int 1], .tuple [.str "P", .int 1], .tuple [.str "abcde", .int 1], .tuple [.int 7, .int 1], .list [nm, .int 1]]
def list8 : List D := [.tuple [], .tuple [nm, nm], .tuple [.str "zz"], .list [nm], .none, .tuple [.none], nm, .tuple [.str "p", .str "q", .str "r", .str "s", .str "t", .str "u"]]
theorem bad_net {x : D} {ws : List D} (h : arePipes (.tuple (x :: pr)) = false) (hx : Tm 3 x) (hpl : pr.length ≤ 3) (hpt : ∀ x ∈ pr, Tm 2 x) (hwl : ws.length ≤ 4) (hwt : ∀ x ∈ ws, Tm 3 x) : Bad (.tuple [.tuple (x :: pr), .tuple ws]) := by
  refine ⟨bad_pipes h, ?_⟩
  have : Tm (8 + 2) (.tuple [.tuple (x :: pr), .tuple ws]) := by
    apply Tm_tuple (by simp)
    refine all_cons ?_ (all_cons ?_ all_nil)
    · exact Tm_tuple (by simp; omega) (all_cons (Tm_mono hx (by decide)) (Tm_alls hpt (by decide)))
    · exact Tm_tuple (by omega) (Tm_alls hwt (by decide))
  exact this
theorem bad10 {ws : List D} (hpl : pr.length ≤ 3) (hpt : ∀ x ∈ pr, Tm 2 x) (hwl : ws.length ≤ 4) (hwt : ∀ x ∈ ws, Tm 3 x) : ∀ x ∈ list5 ++ list5b, Bad (.tuple [.tuple (x :: pr), .tuple ws]) := by
  have tt : ∀ x y : D, Tm 2 x → Tm 2 y → Tm 3 (.tuple [x, y]) := fun x y h1 h2 => Tm_tuple (by simp) (all_cons h1 (all_cons h2 all_nil))
  have hnm : Tm 2 nm := Tm_str (by decide)
  have t1 : Tm 2 (.str "1") := Tm_str (by decide)
  have t2 : Tm 2 (.str "") := Tm_str (by decide)
  have t3 : Tm 2 (.str "P") := Tm_str (by decide)
  have t4 : Tm 2 (.str "abcde") := Tm_str (by decide)
  refine all_cons (bad_net (bad_whole (by decide +kernel)) (tt _ _ hnm Tm_int) hpl hpt hwl hwt) ?_
  refine all_cons (bad_net (bad_whole (by decide +kernel)) (tt _ _ hnm Tm_int) hpl hpt hwl hwt) ?_
  refine all_cons (bad_net (bad_whole (by decide +kernel)) (tt _ _ hnm Tm_bool) hpl hpt hwl hwt) ?_
  refine all_cons (bad_net (bad_whole (by decide +kernel)) (tt _ _ hnm t1) hpl hpt hwl hwt) ?_
  refine all_cons (bad_net (bad_pair (by decide +kernel)) (Tm_tuple (by simp) (all_cons hnm all_nil)) hpl hpt hwl hwt) ?_
  refine all_cons (bad_net (bad_pair (by decide +kernel)) (tt _ _ t2 Tm_int) hpl hpt hwl hwt) ?_
  refine all_cons (bad_net (bad_pair (by decide +kernel)) (tt _ _ t3 Tm_int) hpl hpt hwl hwt) ?_
  refine all_cons (bad_net (bad_pair (by decide +kernel)) (tt _ _ t4 Tm_int) hpl hpt hwl hwt) ?_
  refine all_cons (bad_net (bad_pair (by decide +kernel)) (tt _ _ Tm_int Tm_int) hpl hpt hwl hwt) ?_
  exact all_cons (bad_net (bad_pair (by decide +kernel)) (Tm_list (by simp) (all_cons hnm (all_cons Tm_int all_nil))) hpl hpt hwl hwt) all_nil
theorem bad8 (h : NetP p0 pr wi wl wn row a) : ∀ x ∈ list8, Bad (.tuple [.tuple (p0 :: pr), .tuple (wi ++ [.tuple [wn, x]])]) := by
  have key : ∀ x : D, isRow ((p0 :: pr).map fstD) x = false → Tm 2 x → Bad (.tuple [.tuple (p0 :: pr), .tuple (wi ++ [.tuple [wn, x]])]) := fun x hx ht => by
    refine ⟨bad_way (w := .tuple [wn, x]) (by simp) (bad_row hx), ?_⟩
    have hp0 : Tm 2 p0 := by
      rw [h.ep]
      exact Tm_tuple (by simp) (all_cons (Tm_str (by decide)) (all_cons Tm_int all_nil))
    have : Tm (8 + 2) (.tuple [.tuple (p0 :: pr), .tuple (wi ++ [.tuple [wn, x]])]) := by
      apply Tm_tuple (by simp)
      refine all_cons ?_ (all_cons ?_ all_nil)
      · exact Tm_tuple (by have := h.pl; simp; omega) (all_cons (Tm_mono hp0 (by decide)) (Tm_alls h.pt (by decide)))
      · refine Tm_tuple (by have := h.wil; simp; omega) (Tm_app (Tm_alls h.wt (by decide)) (all_cons ?_ all_nil))
        exact Tm_tuple (by simp) (all_cons (Tm_mono h.wnt (by decide)) (all_cons (Tm_mono ht (by decide)) all_nil))
    exact this
  have hnm : Tm 1 nm := Tm_str (by decide)
  generalize hns : (p0 :: pr).map fstD = ns at key
  have hz := h.zz
  rw [hns] at hz
  refine all_cons (key _ rfl (Tm_tuple (by simp) all_nil)) ?_
  refine all_cons (key _ ?_ (Tm_tuple (by simp) (all_cons hnm (all_cons hnm all_nil)))) ?_
  · have e : inD nm [nm] = true := by decide +kernel
    simp only [isRow, rowGo, List.take_zero, List.take_succ_cons, e]
    simp
  refine all_cons (key _ ?_ (Tm_tuple (by simp) (all_cons (Tm_str (by decide)) all_nil))) ?_
  · simp only [isRow, rowGo, hz]
    simp
  refine all_cons (key _ rfl (Tm_list (by simp) (all_cons hnm all_nil))) ?_
  refine all_cons (key _ rfl Tm_none) ?_
  refine all_cons (key _ ?_ (Tm_tuple (by simp) (all_cons Tm_none all_nil))) ?_
  · simp [isRow, rowGo, isName]
  refine all_cons (key _ rfl (Tm_mono hnm (by decide))) ?_
  refine all_cons (key _ ?_ (Tm_tuple (by simp) (all_cons (Tm_str (by decide)) (all_cons (Tm_str (by decide)) (all_cons (Tm_str (by decide)) (all_cons (Tm_str (by decide)) (all_cons (Tm_str (by decide)) (all_cons (Tm_str (by decide)) all_nil)))))))) all_nil
  simp [isRow]
theorem two {P : D → Prop} {x y : D} (h : P x) (h2 : P y) : ∀ z ∈ [x, y], P z := all_cons h (all_cons h2 all_nil)
theorem bad_more (h : NetP p0 pr wi wl wn row a) :
    (∀ b ∈ [PyData.none, .tuple [], .tuple [.tuple (p0 :: pr)], .tuple [.tuple (p0 :: pr), .tuple (wi ++ [wl]), .int 0], .list [.tuple (p0 :: pr), .tuple (wi ++ [wl])], .tuple [.list (p0 :: pr), .tuple (wi ++ [wl])]], Bad b) ∧
    (∀ b ∈ [PyData.tuple [.tuple (p0 :: pr), .list (wi ++ [wl])], .tuple [.tuple [], .tuple (wi ++ [wl])], .tuple [.tuple (p0 :: pr), .tuple []], .tuple [.tuple (repD (p0 :: pr).reverse 2), .tuple (wi ++ [wl])]], Bad b) ∧
    (∀ ws : List D, ws.length ≤ 9 → (∀ x ∈ ws, Tm 3 x) → isNet (.tuple [.tuple (p0 :: pr), .tuple ws]) = false → Bad (.tuple [.tuple (p0 :: pr), .tuple ws])) := by
  have hp0 : Tm 2 p0 := by
    rw [h.ep]
    exact Tm_tuple (by simp) (two (Tm_str (by decide)) Tm_int)
  have hpl := h.pl
  have hwl := h.wil
  have hpp : ∀ x ∈ p0 :: pr, Tm 2 x := all_cons hp0 h.pt
  have hww : ∀ x ∈ wi ++ [wl], Tm 3 x := Tm_app h.wt (all_cons h.wlt all_nil)
  have hP : Tm 4 (.tuple (p0 :: pr)) := Tm_tuple (by simp; omega) (Tm_alls hpp (by decide))
  have hW : Tm 4 (.tuple (wi ++ [wl])) := Tm_tuple (by simp; omega) hww
  have hPl : Tm 4 (.list (p0 :: pr)) := Tm_list (by simp; omega) (Tm_alls hpp (by decide))
  have hWl : Tm 4 (.list (wi ++ [wl])) := Tm_list (by simp; omega) hww
  have up : ∀ {d : D}, Tm 5 d → Tm 10 d := fun h => Tm_mono h (by decide)
  refine ⟨?_, ?_, ?_⟩
  · refine all_cons ⟨rfl, Tm_none⟩ (all_cons ⟨rfl, up (Tm_tuple (by simp) all_nil)⟩ (all_cons ⟨?_, up (Tm_tuple (by simp) (all_cons hP all_nil))⟩ (all_cons ⟨?_, up (Tm_tuple (by simp) (all_cons hP (two hW Tm_int)))⟩ (two ⟨rfl, up (Tm_list (by simp) (two hP hW))⟩ ⟨?_, up (Tm_tuple (by simp) (two hPl hW))⟩))))
    all_goals
      unfold isNet
      split
      · rename_i he; simp at he
      · rfl
  · refine all_cons ⟨?_, up (Tm_tuple (by simp) (two hP hWl))⟩ (all_cons ⟨bad_pipes (by rfl), up (Tm_tuple (by simp) (two (Tm_tuple (by simp) all_nil) hW))⟩ (two ⟨bad_wlen (by rfl), up (Tm_tuple (by simp) (two hP (Tm_tuple (by simp) all_nil)))⟩ ⟨bad_pipes h.rv, up (Tm_tuple (by simp) (two (Tm_tuple ?_ ?_) hW))⟩))
    · unfold isNet
      split
      · rename_i he; simp at he
      · rfl
    · simp [repD]
      omega
    · intro x hx
      have : x ∈ (p0 :: pr) := by
        unfold repD at hx
        obtain ⟨l, hl, hx⟩ := List.mem_flatten.mp hx
        rw [List.eq_of_mem_replicate hl] at hx
        exact List.mem_reverse.mp hx
      exact Tm_mono (hpp x this) (by decide)
  · intro ws hl ht hn
    exact ⟨hn, up (Tm_tuple (by simp) (two hP (Tm_tuple (by omega) ht)))⟩
end
end Fp

set_option Elab.async false
set_option linter.all false
set_option maxRecDepth 100000
set_option maxHeartbeats 1000000
/-! _law_bad, walked -/
namespace Fp
open PySem L2
theorem add_L {xs ys : List D} (h : xs.length + ys.length ≤ 16777216) : dBin .add (.list xs) (.list ys) = .ok (.list (xs ++ ys)) := by rw [dBin, dAdd, if_pos h]
theorem add_T {xs ys : List D} (h : xs.length + ys.length ≤ 16777216) : dBin .add (.tuple xs) (.tuple ys) = .ok (.tuple (xs ++ ys)) := by rw [dBin, dAdd, if_pos h]
theorem mul_T {xs : List D} (h : xs.length ≤ 1000) (h2 : xs.isEmpty = false) : dBin .mul (.tuple xs) (.int 2) = .ok (.tuple (repD xs 2)) := by
  rw [dBin, dMul, if_pos]
  rw [h2, decide_eq_true h]
  rfl
section
variable {p0 wl wn : D} {pr wi row : List D} {a : Int}
def badB6 : Ss := .cons (.app 5 (.tup (.cons (.bin .add (.tup (.cons (.slot 7) .nil)) (.sli (.slot 1) (.som (.cst (.int 1))) .non)) (.cons (.slot 2) .nil)))) .nil
def badB7 : Ss := .cons (.app 5 (.tup (.cons (.slot 1) (.cons (.bin .add (.sli (.slot 2) .non (.som (.neg (.cst (.int 1))))) (.tup (.cons (.tup (.cons (.idx (.idx (.slot 2) (.neg (.cst (.int 1)))) (.cst (.int 0))) (.cons (.slot 8) .nil))) .nil))) .nil)))) .nil
def bE (ps ws : List D) (bs : List D) (s6 s7 s8 : Slot) : Env := [.val (.tuple [.tuple ps, .tuple ws]), .val (.tuple ps), .val (.tuple ws), .val nm, .val (.int 1), .own (.list bs), s6, s7, s8, .un]
def bE' (a : Int) (ps ws : List D) (bs : List D) (s6 s7 s8 : Slot) : Env := [.val (.tuple [.tuple ps, .tuple ws]), .val (.tuple ps), .val (.tuple ws), .val nm, .val (.int a), .own (.list bs), s6, s7, s8, .un]
theorem bad_l6 (h : NetP p0 pr wi wl wn row a) (n : Nat) (hn : n < 1000) (x : D) (hx : x ∈ list5 ++ list5b) (bs : List D) (hb : GB bs n) (s6 s7 s8 : Slot) :
    ∃ bs', forF (.nm 7) badB6 x (bE' a (p0 :: pr) (wi ++ [wl]) bs s6 s7 s8) = .nx (bE' a (p0 :: pr) (wi ++ [wl]) bs' s6 (.val x) s8) ∧ GB bs' (n + 1) := by
  have ha : forF (.nm 7) badB6 x (bE' a (p0 :: pr) (wi ++ [wl]) bs s6 s7 s8) = exSs badB6 (bE' a (p0 :: pr) (wi ++ [wl]) bs s6 (.val x) s8) := rfl
  have hpl := h.pl
  have hwl := h.wil
  rw [ha]
  unfold badB6
  have e : evE (.tup (.cons (.bin .add (.tup (.cons (.slot 7) .nil)) (.sli (.slot 1) (.som (.cst (.int 1))) .non)) (.cons (.slot 2) .nil))) (bE' a (p0 :: pr) (wi ++ [wl]) bs s6 (.val x) s8) = .ok (.tuple [.tuple (x :: pr), .tuple (wi ++ [wl])]) :=
    ev_tup (evs_cons (ev_bin' (ev_tup (evs1 (ev_slot rfl)) (by simp)) (ev_sli' (ev_slot rfl) (evo_som ev_cst) evo_non (by rw [dSli, cut_one])) (add_T (xs := [x]) (by simp; omega))) (evs1 (ev_slot rfl))) (by simp)
  rw [ex_app rfl e (by have := hb.1; omega), ex_nil]
  refine ⟨_, rfl, GB_app hb rfl (all_cons ?_ all_nil)⟩
  exact bad10 h.pl h.pt (by simp; omega) (Tm_app h.wt (all_cons h.wlt all_nil)) x hx
theorem bad_l7 (h : NetP p0 pr wi wl wn row a) (n : Nat) (hn : n < 1000) (x : D) (hx : x ∈ list8) (bs : List D) (hb : GB bs n) (s6 s7 s8 : Slot) :
    ∃ bs', forF (.nm 8) badB7 x (bE' a (p0 :: pr) (wi ++ [wl]) bs s6 s7 s8) = .nx (bE' a (p0 :: pr) (wi ++ [wl]) bs' s6 s7 (.val x)) ∧ GB bs' (n + 1) := by
  have ha : forF (.nm 8) badB7 x (bE' a (p0 :: pr) (wi ++ [wl]) bs s6 s7 s8) = exSs badB7 (bE' a (p0 :: pr) (wi ++ [wl]) bs s6 s7 (.val x)) := rfl
  have hwl := h.wil
  rw [ha]
  unfold badB7
  have e : evE (.tup (.cons (.slot 1) (.cons (.bin .add (.sli (.slot 2) .non (.som (.neg (.cst (.int 1))))) (.tup (.cons (.tup (.cons (.idx (.idx (.slot 2) (.neg (.cst (.int 1)))) (.cst (.int 0))) (.cons (.slot 8) .nil))) .nil))) .nil))) (bE' a (p0 :: pr) (wi ++ [wl]) bs s6 s7 (.val x)) = .ok (.tuple [.tuple (p0 :: pr), .tuple (wi ++ [.tuple [wn, x]])]) :=
    ev_tup (evs_cons (ev_slot rfl) (evs1 (ev_bin' (ev_sli' (ev_slot rfl) evo_non (evo_som (ev_neg ev_cst)) (by rw [dSli, cut_last])) (ev_tup (evs1 (ev_tup (evs_cons (ev_idx' (ev_idx' (ev_slot rfl) (ev_neg ev_cst) (idx_last wi wl)) ev_cst (by rw [h.ew]; exact dIdxT0)) (evs1 (ev_slot rfl))) (by simp))) (by simp)) (add_T (by simp; omega))))) (by simp)
  rw [ex_app rfl e (by have := hb.1; omega), ex_nil]
  exact ⟨_, rfl, GB_app hb rfl (all_cons (bad8 h x hx) all_nil)⟩
def GoodB (x : R D) : Prop := ∃ bs, x = R.ok (.list bs) ∧ ∀ b ∈ bs, Bad b
theorem GoodB_eq {x y : Fl} (h : x = y) (k : GoodB y.out) : GoodB x.out := by rw [h]; exact k
theorem tuple_str {z : Str} (h : z.length ≤ 16777216) : dBlt .tuple [.str z] = .ok (.tuple (z.cps.toList.map fun c => .str ⟨#[c]⟩)) := by rw [dBlt, if_pos (by simpa using h)]
theorem own_add {i : Nat} {es : Es} {ds bs : List D} {env : Env} {r : Ss} (he : evEs es env = .ok ds) (hi : env[i]? = some (.own (.list bs))) (h1 : bs.length ≤ 1000) (h2 : ds.length ≤ 1000) :
    exSs (.cons (.own i (.bin .add (.bor i) (.lst es))) r) env = exSs r (env.set i (.own (.list (bs ++ ds)))) :=
  ex_own (ev_bin' (ev_boro hi) (ev_lst he (by omega)) (add_L (by omega))) (List.getElem?_eq_some_iff.mp hi).1
theorem isNet_of_wris {ps ws : List D} (h : risD (ws.map fstD) = false) : isNet (.tuple [.tuple ps, .tuple ws]) = false := bad_wris h
theorem bad_ok (h : NetP p0 pr wi wl wn row a) : GoodB (runF 1 10 B__law_bad [.tuple [.tuple (p0 :: pr), .tuple (wi ++ [wl])]]) := by
  have hpl := h.pl
  have hwl := h.wil
  obtain ⟨m1, m2, m3⟩ := bad_more h
  rw [run1 (np := 1) rfl]
  unfold B__law_bad
  show GoodB (exSs _ [.val (.tuple [.tuple (p0 :: pr), .tuple (wi ++ [wl])]), .un, .un, .un, .un, .un, .un, .un, .un, .un]).out
  rw [ex_asnT (env' := [.val (.tuple [.tuple (p0 :: pr), .tuple (wi ++ [wl])]), .val (.tuple (p0 :: pr)), .val (.tuple (wi ++ [wl])), .un, .un, .un, .un, .un, .un, .un]) (ev_slot rfl) rfl]
  rw [ex_asnT (env' := [.val (.tuple [.tuple (p0 :: pr), .tuple (wi ++ [wl])]), .val (.tuple (p0 :: pr)), .val (.tuple (wi ++ [wl])), .val nm, .val (.int a), .un, .un, .un, .un, .un]) (ev_idx' (ev_slot rfl) ev_cst dIdxT0) (by rw [h.ep]; rfl)]
  have e3 : evE (.lst (.cons (.cst .none) (.cons (.tup .nil) (.cons (.tup (.cons (.slot 1) .nil)) (.cons (.bin .add (.slot 0) (.tup (.cons (.cst (.int 0)) .nil))) (.cons (.blt .list (.cons (.slot 0) .nil)) (.cons (.tup (.cons (.blt .list (.cons (.slot 1) .nil)) (.cons (.slot 2) .nil))) .nil)))))))
      [.val (.tuple [.tuple (p0 :: pr), .tuple (wi ++ [wl])]), .val (.tuple (p0 :: pr)), .val (.tuple (wi ++ [wl])), .val nm, .val (.int a), .un, .un, .un, .un, .un] = .ok (.list [PyData.none, .tuple [], .tuple [.tuple (p0 :: pr)], .tuple [.tuple (p0 :: pr), .tuple (wi ++ [wl]), .int 0], .list [.tuple (p0 :: pr), .tuple (wi ++ [wl])], .tuple [.list (p0 :: pr), .tuple (wi ++ [wl])]]) :=

    ev_lst (evs_cons ev_cst (evs_cons (ev_tup evs_nil (by simp)) (evs_cons (ev_tup (evs1 (ev_slot rfl)) (by simp)) (evs_cons (ev_bin' (ev_slot rfl) (ev_tup (evs1 ev_cst) (by simp)) (add_T (by simp))) (evs_cons (ev_blt' (evs1 (ev_slot rfl)) rfl) (evs1 (ev_tup (evs_cons (ev_blt' (evs1 (ev_slot rfl)) rfl) (evs1 (ev_slot rfl))) (by simp)))))))) (by simp)
  rw [ex_own e3 (by simp)]
  have g1 : GB _ 6 := ⟨Nat.le_refl _, m1⟩
  revert g1
  generalize [PyData.none, .tuple [], .tuple [.tuple (p0 :: pr)], .tuple [.tuple (p0 :: pr), .tuple (wi ++ [wl]), .int 0], .list [.tuple (p0 :: pr), .tuple (wi ++ [wl])], .tuple [.list (p0 :: pr), .tuple (wi ++ [wl])]] = bs1
  intro g1
  show GoodB (exSs _ (bE' a (p0 :: pr) (wi ++ [wl]) bs1 .un .un .un)).out
  rw [own_add (ds := [.tuple [.tuple (p0 :: pr), .list (wi ++ [wl])], .tuple [.tuple [], .tuple (wi ++ [wl])], .tuple [.tuple (p0 :: pr), .tuple []], .tuple [.tuple (repD (p0 :: pr).reverse 2), .tuple (wi ++ [wl])]])
    (evs_cons (ev_tup (evs_cons (ev_slot rfl) (evs1 (ev_blt' (evs1 (ev_slot rfl)) rfl))) (by simp)) (evs_cons (ev_tup (evs_cons (ev_tup evs_nil (by simp)) (evs1 (ev_slot rfl))) (by simp)) (evs_cons (ev_tup (evs_cons (ev_slot rfl) (evs1 (ev_tup evs_nil (by simp)))) (by simp)) (evs1 (ev_tup (evs_cons (ev_bin' (ev_rev' (ev_slot rfl) rfl) ev_cst (mul_T (by simp; omega) (by simp))) (evs1 (ev_slot rfl))) (by simp))))))
    rfl (by have := g1.1; omega) (by simp)]
  have g2 := GB_app g1 rfl m2
  revert g2
  generalize bs1 ++ _ = bs2
  intro g2
  show GoodB (exSs _ (bE' a (p0 :: pr) (wi ++ [wl]) bs2 .un .un .un)).out
  rw [ex_asn (x := .list list5) (ev_lst (evs_cons (ev_tup (evs_cons (ev_slot rfl) (evs1 ev_cst)) (by simp)) (evs_cons (ev_tup (evs_cons (ev_slot rfl) (evs1 ev_cst)) (by simp)) (evs_cons (ev_tup (evs_cons (ev_slot rfl) (evs1 ev_cst)) (by simp)) (evs_cons (ev_tup (evs_cons (ev_slot rfl) (evs1 ev_cst)) (by simp)) (evs1 (ev_tup (evs1 (ev_slot rfl)) (by simp))))))) (by decide)) (by simp [bE'])]
  show GoodB (exSs _ (bE' a (p0 :: pr) (wi ++ [wl]) bs2 (.val (.list list5)) .un .un)).out
  obtain ⟨env', e6, bs3, s7, rfl, g3⟩ := for_inv (f := forF (.nm 7) badB6) (P := fun i env => ∃ bs s7, env = bE' a (p0 :: pr) (wi ++ [wl]) bs (.val (.list list5)) s7 .un ∧ GB bs (10 + i)) (xs := list5 ++ list5b) (n := 0) (env := bE' a (p0 :: pr) (wi ++ [wl]) bs2 (.val (.list list5)) .un .un)
    ⟨_, _, rfl, g2⟩ fun i x hx env he => by
      obtain ⟨bs, s7, rfl, hb⟩ := he
      have hi : i < 10 := (List.getElem?_eq_some_iff.mp hx).1
      obtain ⟨bs', e, hb'⟩ := bad_l6 h (10 + (0 + i)) (by omega) x (List.mem_of_getElem? hx) bs hb (.val (.list list5)) s7 .un
      exact ⟨_, e, _, _, rfl, hb'⟩
  refine GoodB_eq (ex_for (xs := list5 ++ list5b) (it_dat (ev_bin' (y := .list list5b) (ev_slot rfl) (ev_lst (evs_cons (ev_tup (evs_cons ev_cst (evs1 ev_cst)) (by simp)) (evs_cons (ev_tup (evs_cons ev_cst (evs1 ev_cst)) (by simp)) (evs_cons (ev_tup (evs_cons ev_cst (evs1 ev_cst)) (by simp)) (evs_cons (ev_tup (evs_cons ev_cst (evs1 ev_cst)) (by simp)) (evs1 (ev_lst (evs_cons (ev_slot rfl) (evs1 ev_cst)) (by simp))))))) (by decide)) (add_L (by decide))) rfl) e6) ?_
  obtain ⟨env', e7, bs4, s8, rfl, g4⟩ := for_inv (f := forF (.nm 8) badB7) (P := fun i env => ∃ bs s8, env = bE' a (p0 :: pr) (wi ++ [wl]) bs (.val (.list list5)) s7 s8 ∧ GB bs (20 + i)) (xs := list8) (n := 0) (env := bE' a (p0 :: pr) (wi ++ [wl]) bs3 (.val (.list list5)) s7 .un)
    ⟨_, _, rfl, g3⟩ fun i x hx env he => by
      obtain ⟨bs, s8, rfl, hb⟩ := he
      have hi : i < 8 := (List.getElem?_eq_some_iff.mp hx).1
      obtain ⟨bs', e, hb'⟩ := bad_l7 h (20 + (0 + i)) (by omega) x (List.mem_of_getElem? hx) bs hb (.val (.list list5)) s7 s8
      exact ⟨_, e, _, _, rfl, hb'⟩
  have g4 : GB bs4 28 := g4
  have ept : evE (.blt .tuple (.cons (.cst (.str "pqrstu")) .nil)) (bE' a (p0 :: pr) (wi ++ [wl]) bs3 (.val (.list list5)) s7 .un) = .ok (.tuple [.str "p", .str "q", .str "r", .str "s", .str "t", .str "u"]) :=
    ok_of (ev_blt' (evs1 ev_cst) (tuple_str (by decide))) (by rfl)
  refine GoodB_eq (ex_for (xs := list8) (it_dat (ev_tup (evs_cons (ev_tup evs_nil (by simp)) (evs_cons (ev_tup (evs_cons (ev_slot rfl) (evs1 (ev_slot rfl))) (by simp)) (evs_cons (ev_tup (evs1 ev_cst) (by simp)) (evs_cons (ev_lst (evs1 (ev_slot rfl)) (by simp)) (evs_cons ev_cst (evs_cons (ev_tup (evs1 ev_cst) (by simp)) (evs_cons (ev_slot rfl) (evs1 ept)))))))) (by simp)) rfl) e7) ?_
  have way : ∀ (x : D) env, env[3]? = some (.val nm) → evE (.tup (.cons (.cst x) (.cons (.tup (.cons (.slot 3) .nil)) .nil))) env = .ok (.tuple [x, .tuple [nm]]) := fun x env he =>
    ev_tup (evs_cons ev_cst (evs1 (ev_tup (evs1 (ev_slot he)) (by simp)))) (by simp)
  rw [own_add (ds := [.tuple [.tuple (p0 :: pr), .tuple [.tuple [.str "a", .tuple [nm]], .tuple [.str "a", .tuple [nm]]]]])
    (evs1 (ev_tup (evs_cons (ev_slot rfl) (evs1 (ev_tup (evs_cons (way _ _ rfl) (evs1 (way _ _ rfl))) (by simp)))) (by simp))) rfl (by have := g4.1; omega) (by simp)]
  have g5 := GB_app (m := 1) g4 rfl (all_cons (m3 [.tuple [.str "a", .tuple [nm]], .tuple [.str "a", .tuple [nm]]] (by decide) (by unfold Tm; decide +kernel) (bad_wris (by decide +kernel))) all_nil)
  revert g5
  generalize bs4 ++ _ = bs5
  intro g5
  show GoodB (exSs _ (bE' a (p0 :: pr) (wi ++ [wl]) bs5 (.val (.list list5)) s7 s8)).out
  rw [own_add (ds := [.tuple [.tuple (p0 :: pr), .tuple [.tuple [.str "b", .tuple [nm]], .tuple [.str "a", .tuple [nm]]]], .tuple [.tuple (p0 :: pr), .tuple [.tuple [.str "A", .tuple [nm]]]]])
    (evs_cons (ev_tup (evs_cons (ev_slot rfl) (evs1 (ev_tup (evs_cons (way _ _ rfl) (evs1 (way _ _ rfl))) (by simp)))) (by simp)) (evs1 (ev_tup (evs_cons (ev_slot rfl) (evs1 (ev_tup (evs1 (way _ _ rfl)) (by simp)))) (by simp)))) rfl (by have := g5.1; omega) (by simp)]
  have g6 := GB_app (m := 2) g5 rfl (two (m3 [.tuple [.str "b", .tuple [nm]], .tuple [.str "a", .tuple [nm]]] (by decide) (by unfold Tm; decide +kernel) (bad_wris (by decide +kernel)))
    (m3 [.tuple [.str "A", .tuple [nm]]] (by decide) (by unfold Tm; decide +kernel) (bad_way (w := .tuple [.str "A", .tuple [nm]]) (by simp) (by
      have : isPair (.tuple [.str "A", .tuple [nm]]) = false := by decide +kernel
      rw [this]; rfl))))
  revert g6
  generalize bs5 ++ _ = bs6
  intro g6
  show GoodB (exSs _ (bE' a (p0 :: pr) (wi ++ [wl]) bs6 (.val (.list list5)) s7 s8)).out
  have hs9 : ∀ (z : Str) (c : D), z.length ≤ 100 → ∀ f : E, (∀ x env, env[3]? = some (.val nm) → env[9]? = some (.val x) → evE f env = .ok c) → ∀ bs, evE (.blt .tuple (.cons (.lc [9] (.nm 9) (.dat (.cst (.str z))) .nil (.tup (.cons (.slot 9) (.cons f .nil)))) .nil)) (bE' a (p0 :: pr) (wi ++ [wl]) bs (.val (.list list5)) s7 s8) =
      .ok (.tuple ((z.cps.toList.map fun c => PyData.str ⟨#[c]⟩).map fun x => .tuple [x, c])) := fun z c hz f hf bs => by
    refine ev_blt' (evs1 (ev_lc (g := fun x => .tuple [x, c]) (it_dat ev_cst rfl) ?_ fun x hx => ⟨_, rfl, ev_tup (evs_cons (ev_slot rfl) (evs1 (hf x _ rfl rfl))) (by simp)⟩)) rfl
    have : z.cps.toList.length = z.length := by simp [Str.length]
    rw [List.length_map]
    omega
  rw [ex_app rfl (ev_tup (evs_cons (ev_slot rfl) (evs1 (hs9 "abcdefghi" (.tuple [nm]) (by decide) _ (fun x env h1 _ => ev_tup (evs1 (ev_slot h1)) (by simp)) bs6))) (by simp)) (by have := g6.1; omega)]
  have g7 := GB_app (m := 1) g6 rfl (all_cons (m3 ((("abcdefghi" : Str).cps.toList.map fun c => PyData.str ⟨#[c]⟩).map fun x => .tuple [x, .tuple [nm]]) (by decide +kernel) (by unfold Tm; decide +kernel) (bad_wlen (by decide +kernel))) all_nil)
  revert g7
  generalize bs6 ++ _ = bs7
  intro g7
  show GoodB (exSs _ (bE' a (p0 :: pr) (wi ++ [wl]) bs7 (.val (.list list5)) s7 s8)).out
  rw [ret1, ev_bin' (ev_boro rfl) (ev_lst (evs1 (ev_tup (evs_cons (hs9 "abcdefg" (.int 1) (by decide) _ (fun x env h1 _ => ev_cst) bs7) (evs1 (ev_tup (evs1 (ev_tup (evs_cons ev_cst (evs1 (ev_tup (evs1 ev_cst) (by simp)))) (by simp))) (by simp)))) (by simp))) (by simp)) (add_L (by have := g7.1; simp; omega))]
  exact ⟨_, rfl, (GB_app (m := 1) g7 rfl (all_cons (by unfold Bad Tm; decide +kernel) all_nil)).2⟩
end
end Fp

set_option Elab.async false
set_option linter.all false
set_option maxRecDepth 100000
set_option maxHeartbeats 1000000
/-! What the drawn nets and states are. -/
namespace Fp
open PySem L2
theorem eqv_name {x y : D} (hx : isName x = true) (hy : isName y = true) : PyData.eqv x y = true ↔ x = y := by
  cases x <;> first | (cases hx; done) | skip
  cases y <;> first | (cases hy; done) | skip
  rename_i a b
  have : PyData.eqv (.str a) (.str b) = decide (a = b) := rfl
  rw [this, decide_eq_true_eq]
  exact ⟨fun h => by rw [h], fun h => by cases h; rfl⟩
theorem inD_true {x : D} {xs : List D} (hx : isName x = true) (h : x ∈ xs) : inD x xs = true := List.any_eq_true.mpr ⟨x, h, (eqv_name hx hx).mpr rfl⟩
theorem inD_false {x : D} {xs : List D} (hx : isName x = true) (hs : ∀ y ∈ xs, isName y = true) (h : x ∉ xs) : inD x xs = false := by
  unfold inD
  rw [List.any_eq_false]
  intro y hy e
  have := (eqv_name (hs y hy) hx).mp e
  subst this
  exact h hy
theorem rowGo_ok {ns xs : List D} (hn : ∀ y ∈ ns, isName y = true) (hx : ∀ y ∈ xs, y ∈ ns) (hd : xs.Nodup) : ∀ (l : List D) (n : Nat), xs.drop n = l → rowGo ns xs n l = true
  | [], _, _ => rfl
  | x :: l, n, e => by
    have hm : x ∈ xs := by
      have : x ∈ xs.drop n := by rw [e]; exact List.mem_cons_self
      exact List.mem_of_mem_drop this
    have ih := rowGo_ok hn hx hd l (n + 1) (by rw [← List.drop_drop, e]; rfl)
    have hnt : x ∉ xs.take n := fun ht => by
      have h1 : (xs.take n ++ xs.drop n).Nodup := by rw [List.take_append_drop]; exact hd
      have h2 := (List.nodup_append.mp h1).2.2 x ht x (by rw [e]; exact List.mem_cons_self)
      exact h2 rfl
    rw [rowGo, hn x (hx x hm), inD_true (hn x (hx x hm)) (hx x hm), inD_false (hn x (hx x hm)) (fun y hy => hn y (hx y (List.mem_of_mem_take hy))) hnt, ih]
    rfl
theorem strAt_name4 : ∀ i, i < 4 → isName (strAt "pqrs" i) = true := by decide +kernel
theorem strAt_name4w : ∀ i, i < 4 → isName (strAt "abcd" i) = true := by decide +kernel
theorem GP_names {ps : List D} {n : Nat} (h : GP ps n) (hn : n ≤ 4) : ∀ y ∈ ps.map fstD, isName y = true := fun y hy => by
  obtain ⟨p, hp, rfl⟩ := List.mem_map.mp hy
  obtain ⟨i, l, hi, rfl, _⟩ := GP_mem h hp
  exact strAt_name4 i (by omega)
theorem GP_map {ps : List D} {n : Nat} (h : GP ps n) : ps.map fstD = (List.range n).map (strAt "pqrs") := by
  apply List.ext_getElem?
  intro i
  by_cases hi : i < n
  · rw [GP_fst h hi, List.getElem?_map, List.getElem?_range hi]; rfl
  · rw [List.getElem?_eq_none (by rw [List.length_map]; have := h.1; omega), List.getElem?_eq_none (by simp; omega)]
theorem GW_map {ns ws : List D} {n : Nat} (h : GW ns ws n) : ws.map fstD = (List.range n).map (strAt "abcd") := by
  apply List.ext_getElem?
  intro i
  by_cases hi : i < n
  · obtain ⟨row, h1, _⟩ := h.2 i hi
    rw [List.getElem?_map, h1, List.getElem?_map, List.getElem?_range hi]; rfl
  · rw [List.getElem?_eq_none (by rw [List.length_map]; have := h.1; omega), List.getElem?_eq_none (by simp; omega)]
theorem ris_range : (∀ n, n < 5 → risD ((List.range n).map (strAt "pqrs")) = true) ∧ ∀ n, n < 5 → risD ((List.range n).map (strAt "abcd")) = true := by decide +kernel
theorem GP_pipes {ps : List D} {n : Nat} (h : GP ps n) (h1 : 1 ≤ n) (h4 : n ≤ 4) : arePipes (.tuple ps) = true := by
  have hl := h.1
  have e1 : ps.all isPair = true := List.all_eq_true.mpr fun p hp => by
    obtain ⟨i, l, hi, rfl, _⟩ := GP_mem h hp
    exact strAt_name4 i (by omega)
  have e2 : (ps.all fun p => isWhole (sndD p) 1 4) = true := List.all_eq_true.mpr fun p hp => by
    obtain ⟨i, l, hi, rfl, h2, h3⟩ := GP_mem h hp
    simp [isWhole, sndD, PyData.isInt, PyData.isBool]
    omega
  rw [arePipes, e1, e2, GP_map h, ris_range.1 n (by omega), decide_eq_true (show 1 ≤ ps.length by omega), decide_eq_true (show ps.length ≤ 6 by omega)]
  rfl
theorem GR_row {ns row : List D} (h : GR ns row) (hn : ∀ y ∈ ns, isName y = true) : isRow ns (.tuple row) = true := by
  obtain ⟨h1, h2, h3, h4⟩ := h
  rw [isRow, rowGo_ok hn h3 h4 row 0 rfl, decide_eq_true h1, decide_eq_true (by omega)]
  rfl
theorem GW_mem {ns ws : List D} {n : Nat} (h : GW ns ws n) {w : D} (hw : w ∈ ws) : ∃ i row, i < n ∧ w = .tuple [strAt "abcd" i, .tuple row] ∧ GR ns row := by
  obtain ⟨i, hi, rfl⟩ := List.mem_iff_getElem.mp hw
  have hl := h.1
  obtain ⟨row, h1, h2⟩ := h.2 i (by omega)
  rw [List.getElem?_eq_getElem hi] at h1
  exact ⟨i, row, by omega, Option.some.inj h1, h2⟩
theorem GNet_is {ps ws : List D} {n m : Nat} (h : GP ps n) (k : GW (ps.map fstD) ws m) (h1 : 1 ≤ n) (h4 : n ≤ 4) (k1 : 1 ≤ m) (k4 : m ≤ 4) : isNet (.tuple [.tuple ps, .tuple ws]) = true := by
  have hl := k.1
  have e1 : (ws.all fun w => isPair w && isRow (ps.map fstD) (sndD w)) = true := List.all_eq_true.mpr fun w hw => by
    obtain ⟨i, row, hi, rfl, hr⟩ := GW_mem k hw
    rw [Bool.and_eq_true]
    exact ⟨strAt_name4w i (by omega), GR_row hr (GP_names h h4)⟩
  rw [isNet, GP_pipes h h1 h4, e1, GW_map k, ris_range.2 m (by omega), decide_eq_true (show 1 ≤ ws.length by omega), decide_eq_true (show ws.length ≤ 8 by omega)]
  rfl
theorem Tm_name {x : D} (h : isName x = true) (k : Nat) : Tm k x := by
  cases x <;> first | (cases h; done) | skip
  rename_i z
  refine ⟨rfl, Nat.zero_le _, ?_⟩
  simp only [isName, Bool.and_eq_true, decide_eq_true_eq] at h
  rw [sz]
  exact decide_eq_true (by omega)
theorem GW_tm {ps ws : List D} {n m : Nat} (h : GP ps n) (h4 : n ≤ 4) (k : GW (ps.map fstD) ws m) (k4 : m ≤ 4) : ∀ w ∈ ws, Tm 3 w := fun w hw => by
  obtain ⟨i, row, hi, rfl, h1, h2, h3, _⟩ := GW_mem k hw
  refine Tm_tuple (by simp) (two (Tm_name (strAt_name4w i (by omega)) _) (Tm_tuple (by omega) fun x hx => Tm_name (GP_names h h4 x (h3 x hx)) _))
theorem GP_tm {ps : List D} {n : Nat} (h : GP ps n) (h4 : n ≤ 4) : ∀ p ∈ ps, Tm 2 p := fun p hp => by
  obtain ⟨i, l, hi, rfl, _⟩ := GP_mem h hp
  exact Tm_tuple (by simp) (two (Tm_name (strAt_name4 i (by omega)) _) Tm_int)
theorem GNet_parts {ps ws : List D} {n m : Nat} (h : GP ps n) (k : GW (ps.map fstD) ws m) (h1 : 1 ≤ n) (h4 : n ≤ 4) (k1 : 1 ≤ m) (k4 : m ≤ 4) : ∃ p0 pr wi wl wn row a, ps = p0 :: pr ∧ ws = wi ++ [wl] ∧ NetP p0 pr wi wl wn row a := by
  obtain ⟨a, b, c, d, e, ka, kb, kc, kd⟩ := GP_four h h1 h4
  have htm := GP_tm h h4
  have hwt := GW_tm h h4 k k4
  have hl := h.1
  have kl := k.1
  have hz : inD (.str "zz") (ps.map fstD) = false := by
    rw [GP_map h]
    have : ∀ n, n < 5 → inD (.str "zz") ((List.range n).map (strAt "pqrs")) = false := by decide +kernel
    exact this n (by omega)
  have hpp : inD (.str "p") (ps.map fstD) = true := by
    rw [GP_map h]
    have : ∀ n, n < 5 → 1 ≤ n → inD (.str "p") ((List.range n).map (strAt "pqrs")) = true := by decide +kernel
    exact this n (by omega) h1
  have hrv : arePipes (.tuple (repD ps.reverse 2)) = false := by
    apply bad_ris
    have e2 : (repD ps.reverse 2).map fstD = repD ((List.range n).map (strAt "pqrs")).reverse 2 := by
      rw [← GP_map h]
      unfold repD
      rw [List.map_flatten, List.map_replicate, List.map_reverse]
    rw [e2]
    have : ∀ n, n < 5 → 1 ≤ n → risD (repD ((List.range n).map (strAt "pqrs")).reverse 2) = false := by decide +kernel
    exact this n (by omega) h1
  obtain ⟨wi, wl, rfl⟩ : ∃ wi wl, ws = wi ++ [wl] := by
    have hne : ws ≠ [] := by
      intro e
      subst e
      have : (0 : Nat) = m := kl
      omega
    exact ⟨ws.dropLast, ws.getLast hne, (List.dropLast_concat_getLast hne).symm⟩
  obtain ⟨i, row, hi, ew, hr⟩ := GW_mem k (w := wl) (by simp)
  have hwl : wi.length ≤ 3 := by rw [List.length_append] at kl; simp at kl; omega
  obtain ⟨p0, pr, rfl⟩ : ∃ p0 pr, ps = p0 :: pr := by
    cases ps with
    | nil =>
      have : (0 : Nat) = n := hl
      omega
    | cons p0 pr => exact ⟨p0, pr, rfl⟩
  have ep : p0 = .tuple [.str "p", .int a] := by
    cases n with
    | zero => omega
    | succ n =>
      rw [List.take_succ_cons] at e
      exact (List.cons.inj e).1
  exact ⟨p0, pr, wi, wl, strAt "abcd" i, row, a, rfl, rfl, ep, ka.1, ka.2, by simp at hl; omega, fun x hx => htm x (List.mem_cons_of_mem _ hx), hrv, hz, hpp, ew, hwl, fun x hx => hwt x (List.mem_append_left _ hx), hwt wl (by simp), Tm_name (strAt_name4w i (by omega)) _⟩
end Fp

set_option Elab.async false
set_option linter.all false
set_option maxRecDepth 100000
set_option maxHeartbeats 1000000
/-! k01: the law's own body. -/
namespace Fp
open PySem L2
theorem zip_lens2 : ∀ (rows ps : List D), (∀ (i : Nat) p r, ps[i]? = some p → rows[i]? = some r → SR p r) → (zipD rows ps).all lensOk = true
  | [], _, _ => rfl
  | _ :: _, [], _ => rfl
  | r :: rows, p :: ps, h => by
    have ih := zip_lens2 rows ps fun i p r h1 h2 => h (i + 1) p r h1 h2
    rw [zipD, List.zipWith_cons_cons, List.all_cons, Bool.and_eq_true]
    refine ⟨?_, ih⟩
    obtain ⟨xs, rfl, h1, _⟩ := h 0 p r rfl rfl
    exact decide_eq_true h1
theorem slug_name : ∀ x ∈ slugs, isName x = true := by decide +kernel
theorem GS_all {ps rows : List D} (h : GS ps rows ps.length) : ∀ (i : Nat) p r, ps[i]? = some p → rows[i]? = some r → SR p r := fun i p r h1 h2 => by
  obtain ⟨p', r', k1, k2, k3⟩ := h.2 i (List.getElem?_eq_some_iff.mp h1).1
  rw [h1] at k1
  rw [h2] at k2
  cases k1; cases k2
  exact k3
theorem GS_st {ps rows : List D} (h : GS ps rows ps.length) : stOf ps (.tuple rows) = true := by
  have h0 := GS_all h
  have hl := h.1
  have hm : ∀ r ∈ rows, ∃ xs : List D, r = .tuple xs ∧ ∀ x ∈ xs, x ∈ slugs := fun r hr => by
    obtain ⟨i, hi, rfl⟩ := List.mem_iff_getElem.mp hr
    obtain ⟨xs, e, _, h3⟩ := h0 i ps[i] rows[i] (List.getElem?_eq_getElem (by omega)) (List.getElem?_eq_getElem hi)
    exact ⟨xs, e, h3⟩
  have e1 : rows.all (isTy .tuple) = true := List.all_eq_true.mpr fun r hr => by
    obtain ⟨xs, rfl, _⟩ := hm r hr
    rfl
  have e2 : (rows.all fun r => (itD r).all isName) = true := List.all_eq_true.mpr fun r hr => by
    obtain ⟨xs, rfl, h3⟩ := hm r hr
    exact List.all_eq_true.mpr fun x hx => slug_name x (h3 x hx)
  rw [stOf, decide_eq_true hl, e1, zip_lens2 rows ps h0, e2]
  rfl
theorem GS_tm {ps rows : List D} (h : GS ps rows ps.length) (h4 : ∀ p ∈ ps, intD (sndD p) ≤ 4) : ∀ r ∈ rows, ∃ xs : List D, r = .tuple xs ∧ xs.length ≤ 4 ∧ ∀ x ∈ xs, Tm 0 x := fun r hr => by
  have hl := h.1
  obtain ⟨i, hi, rfl⟩ := List.mem_iff_getElem.mp hr
  obtain ⟨xs, e, h2, h3⟩ := GS_all h i ps[i] rows[i] (List.getElem?_eq_getElem (by omega)) (List.getElem?_eq_getElem hi)
  have := h4 ps[i] (List.getElem_mem _)
  exact ⟨xs, e, by omega, fun x hx => Tm_name (slug_name x (h3 x hx)) _⟩
theorem st_len {ps rows : List D} (h : rows.length ≠ ps.length) : stOf ps (.tuple rows) = false := by
  rw [stOf, decide_eq_false h]; rfl
theorem st_tup {ps rr : List D} {r : D} (h : isTy .tuple r = false) : stOf ps (.tuple (r :: rr)) = false := by
  rw [stOf, List.all_cons, h]; simp
theorem st_zip {pr rr : List D} {r p0 : D} (h : (lenD r : Int) ≠ intD (sndD p0)) : stOf (p0 :: pr) (.tuple (r :: rr)) = false := by
  have : (zipD (r :: rr) (p0 :: pr)).all lensOk = false := by
    rw [zipD, List.zipWith_cons_cons, List.all_cons]
    have e : lensOk (.tuple [r, p0]) = false := decide_eq_false h
    rw [e]; rfl
  rw [stOf, this]; simp
theorem st_nm {ps rr xr : List D} {s : D} (h : isName s = false) : stOf ps (.tuple (.tuple (s :: xr) :: rr)) = false := by
  have e : ((.tuple (s :: xr) :: rr : List D).all fun r => (itD r).all isName) = false := by
    rw [List.all_cons, itD, List.all_cons, h]; rfl
  rw [stOf, e]; simp
theorem no_ok {exs : List Str} {j : Nat} {g : List D → R D} (n : D) (he : exs.contains "NoNet" = true) (h : g [n, .tuple []] = .ex "NoNet") : runF 1 2 (B__law_no exs j g) [n] = .ok (.bool true) := by
  rw [run1 (np := 1) rfl]
  unfold B__law_no
  have e : exSs (.cons (.exp (.call j g (.cons (.slot 0) (.cons (.tup .nil) .nil)))) .nil) [.val n, .un] = .ex "NoNet" [.val n, .un] := by
    rw [exSs, exS, ev_call (evs_cons (ev_slot rfl) (evs1 (ev_tup evs_nil (by simp)))), h]
    rfl
  show (exSs _ [.val n, .un]).out = _
  rw [exSs, exS, e]
  dsimp only
  rw [he]
  rfl
structure Gs (gn gs gis gisn gb gno : List D → R D) (sc : D) : Prop where
  net : ∃ d, gn [sc, .int 10] = .ok d ∧ GNet d
  st : ∀ ps w n, GP ps n → n ≤ 6 → ∃ d, gs [sc, .int 60, .tuple [.tuple ps, w]] = .ok d ∧ GState ps d
  isn : ∀ d, sz d = true → fine d = true → gisn [d] = .ok (.bool (isNet d))
  is : ∀ n d, sz n = true → fine n = true → sz d = true → gis [n, d] = if isNet n = true then .ok (.bool (stOf (itD (fstD n)) d)) else .ex "NoNet"
  bad : ∀ p0 pr wi wl wn row a, NetP p0 pr wi wl wn row a → GoodB (gb [.tuple [.tuple (p0 :: pr), .tuple (wi ++ [wl])]])
  no : ∀ n, isNet n = false → sz n = true → fine n = true → gno [n] = .ok (.bool true)
def OB (ps os : List D) (n : Nat) : Prop := os.length ≤ n ∧ ∀ b ∈ os, stOf ps b = false ∧ sz b = true
theorem OB_app {ps bs cs : List D} {n m : Nat} (h : OB ps bs n) (hl : cs.length = m) (h2 : ∀ b ∈ cs, stOf ps b = false ∧ sz b = true) : OB ps (bs ++ cs) (n + m) := by
  refine ⟨by rw [List.length_append]; have := h.1; omega, fun b hb => ?_⟩
  rcases List.mem_append.mp hb with hb | hb
  · exact h.2 b hb
  · exact h2 b hb
def Yes (x : R D) : Prop := x = .ok (.bool true)
theorem Yes_eq {x y : Fl} (h : x = y) (k : Yes y.out) : Yes x.out := by rw [h]; exact k
theorem Yes_if {env : Env} {c a : E} {r : Ss} (h : evE c env = .ok (.bool false)) (k : Yes (exSs r env).out) : Yes (exSs (.cons (.ife c (.cons (.ret a) .nil) .nil) r) env).out := by
  rw [ex_ife h, if_neg (by simp), ex_nil]
  exact k
end Fp

set_option Elab.async false
set_option linter.all false
set_option maxRecDepth 100000
namespace Fp
open PySem
def B_pipes_in : Ss := (.cons (.ret (.lc [1] (.nm 1) (.dat (.idx (.slot 0) (.cst (.int 0)))) .nil (.idx (.slot 1) (.cst (.int 0)))))
 .nil)
def B_look_pipe (j_pipes_in : Nat) (g_pipes_in : List D → R D) (j_is_name : Nat) (g_is_name : List D → R D) : Ss := (.cons (.ife (.or (.not (.call j_is_name g_is_name (.cons (.slot 1) .nil))) (.cmp .notin (.slot 1) (.call j_pipes_in g_pipes_in (.cons (.slot 0) .nil)))) (.cons (.rse "NoPipe")
 .nil) .nil)
 .nil)
def B_plain_through : Ss := (.cons (.ret (.lc [2] (.nm 2) (.dat (.idx (.slot 0) (.cst (.int 1)))) (.one (.cmp .isin (.slot 1) (.idx (.slot 2) (.cst (.int 1))))) (.idx (.slot 2) (.cst (.int 0)))))
 .nil)
def B_ways_through (j_look_net : Nat) (g_look_net : List D → R D) (j_look_pipe : Nat) (g_look_pipe : List D → R D) (j_plain_through : Nat) (g_plain_through : List D → R D) : Ss := (.cons (.exp (.call j_look_net g_look_net (.cons (.slot 0) .nil)))
 (.cons (.exp (.call j_look_pipe g_look_pipe (.cons (.slot 0) (.cons (.slot 1) .nil))))
 (.cons (.ret (.call j_plain_through g_plain_through (.cons (.slot 0) (.cons (.slot 1) .nil))))
 .nil)))
def B_look_state (j_is_state_of : Nat) (g_is_state_of : List D → R D) : Ss := (.cons (.ife (.not (.call j_is_state_of g_is_state_of (.cons (.slot 0) (.cons (.slot 1) .nil)))) (.cons (.rse "NoState")
 .nil) .nil)
 .nil)
def B_ways_in : Ss := (.cons (.ret (.lc [1] (.nm 1) (.dat (.idx (.slot 0) (.cst (.int 1)))) .nil (.idx (.slot 1) (.cst (.int 0)))))
 .nil)
def B_is_push_of (j_is_name : Nat) (g_is_name : List D → R D) (j_ways_in : Nat) (g_ways_in : List D → R D) (j_is_pair : Nat) (g_is_pair : List D → R D) : Ss := (.cons (.ret (.and (.call j_is_pair g_is_pair (.cons (.slot 1) .nil)) (.and (.cmp .isin (.idx (.slot 1) (.cst (.int 0))) (.call j_ways_in g_ways_in (.cons (.slot 0) .nil))) (.call j_is_name g_is_name (.cons (.idx (.slot 1) (.cst (.int 1))) .nil)))))
 .nil)
def B_look_push (j_is_push_of : Nat) (g_is_push_of : List D → R D) : Ss := (.cons (.ife (.not (.call j_is_push_of g_is_push_of (.cons (.slot 0) (.cons (.slot 1) .nil)))) (.cons (.rse "NoPush")
 .nil) .nil)
 .nil)
def B_look_pushed (j_look_net : Nat) (g_look_net : List D → R D) (j_look_state : Nat) (g_look_state : List D → R D) (j_look_push : Nat) (g_look_push : List D → R D) : Ss := (.cons (.exp (.call j_look_net g_look_net (.cons (.slot 0) .nil)))
 (.cons (.exp (.call j_look_state g_look_state (.cons (.slot 0) (.cons (.slot 1) .nil))))
 (.cons (.exp (.call j_look_push g_look_push (.cons (.slot 0) (.cons (.slot 2) .nil))))
 .nil)))
def B_row_of (j_ways_in : Nat) (g_ways_in : List D → R D) : Ss := (.cons (.ret (.idx (.idx (.idx (.slot 0) (.cst (.int 1))) (.met .index (.call j_ways_in g_ways_in (.cons (.slot 0) .nil)) (.cons (.slot 1) .nil))) (.cst (.int 1))))
 .nil)
def B_plain_pushed (j_pipes_in : Nat) (g_pipes_in : List D → R D) (j_row_of : Nat) (g_row_of : List D → R D) : Ss := (.cons (.par (.cons 3 false (.call j_pipes_in g_pipes_in (.cons (.slot 0) .nil)) (.cons 4 true (.blt .list (.cons (.slot 1) .nil)) (.cons 5 false (.idx (.slot 2) (.cst (.int 1))) .nil))))
 (.cons (.for (.nm 6) (.dat (.call j_row_of g_row_of (.cons (.slot 0) (.cons (.idx (.slot 2) (.cst (.int 0))) .nil)))) (.cons (.asn (.nm 7) (.met .index (.slot 3) (.cons (.slot 6) .nil)))
 (.cons (.asn (.nm 8) (.idx (.idx (.bor 4) (.slot 7)) (.neg (.cst (.int 1)))))
 (.cons (.sti 4 (.slot 7) (.bin .add (.tup (.cons (.slot 5) .nil)) (.sli (.idx (.bor 4) (.slot 7)) .non (.som (.neg (.cst (.int 1)))))))
 (.cons (.asn (.nm 5) (.slot 8))
 .nil)))))
 (.cons (.ret (.tup (.cons (.blt .tuple (.cons (.bor 4) .nil)) (.cons (.slot 5) .nil))))
 .nil)))
def B_pushed (j_look_pushed : Nat) (g_look_pushed : List D → R D) (j_plain_pushed : Nat) (g_plain_pushed : List D → R D) : Ss := (.cons (.exp (.call j_look_pushed g_look_pushed (.cons (.slot 0) (.cons (.slot 1) (.cons (.slot 2) .nil)))))
 (.cons (.ret (.call j_plain_pushed g_plain_pushed (.cons (.slot 0) (.cons (.slot 1) (.cons (.slot 2) .nil)))))
 .nil))
def B_plain_drawn (j_pipes_in : Nat) (g_pipes_in : List D → R D) (j_row_of : Nat) (g_row_of : List D → R D) : Ss := (.cons (.par (.cons 3 false (.call j_pipes_in g_pipes_in (.cons (.slot 0) .nil)) (.cons 4 true (.blt .list (.cons (.slot 1) .nil)) (.cons 5 false (.idx (.slot 2) (.cst (.int 1))) .nil))))
 (.cons (.for (.nm 6) (.dat (.rev (.call j_row_of g_row_of (.cons (.slot 0) (.cons (.idx (.slot 2) (.cst (.int 0))) .nil))))) (.cons (.asn (.nm 7) (.met .index (.slot 3) (.cons (.slot 6) .nil)))
 (.cons (.asn (.nm 8) (.idx (.idx (.bor 4) (.slot 7)) (.cst (.int 0))))
 (.cons (.sti 4 (.slot 7) (.bin .add (.sli (.idx (.bor 4) (.slot 7)) (.som (.cst (.int 1))) .non) (.tup (.cons (.slot 5) .nil))))
 (.cons (.asn (.nm 5) (.slot 8))
 .nil)))))
 (.cons (.ret (.tup (.cons (.blt .tuple (.cons (.bor 4) .nil)) (.cons (.slot 5) .nil))))
 .nil)))
def B_drawn (j_look_pushed : Nat) (g_look_pushed : List D → R D) (j_plain_drawn : Nat) (g_plain_drawn : List D → R D) : Ss := (.cons (.exp (.call j_look_pushed g_look_pushed (.cons (.slot 0) (.cons (.slot 1) (.cons (.slot 2) .nil)))))
 (.cons (.ret (.call j_plain_drawn g_plain_drawn (.cons (.slot 0) (.cons (.slot 1) (.cons (.slot 2) .nil)))))
 .nil))
def B__law_push : Ss := (.cons (.dnew 5 (.of false (.lc [6, 7] (.t2 (.nm 6) (.nm 7)) (.zip (.idx (.slot 0) (.cst (.int 0))) (.slot 1)) .nil (.tup (.cons (.idx (.slot 6) (.cst (.int 0))) (.cons (.blt .list (.cons (.slot 7) .nil)) .nil))))))
 (.cons (.asn (.nm 8) (.blt .list (.cons (.dget (.of false (.idx (.slot 0) (.cst (.int 1)))) (.slot 2)) .nil)))
 (.cons (.for (.nm 9) (.dat (.ite (.cmp .eq (.slot 4) (.cst (.int 1))) (.slot 8) (.rev (.slot 8)))) (.cons (.asn (.nm 7) (.dget (.slot 5) (.slot 9)))
 (.cons (.ife (.cmp .eq (.slot 4) (.cst (.int 1))) (.cons (.dpar 5 (.slot 9) (.bin .add (.lst (.cons (.slot 3) .nil)) (.sli (.slot 7) .non (.som (.neg (.cst (.int 1)))))) 3 (.idx (.slot 7) (.neg (.cst (.int 1)))))
 .nil) (.cons (.dpar 5 (.slot 9) (.bin .add (.sli (.slot 7) (.som (.cst (.int 1))) .non) (.lst (.cons (.slot 3) .nil))) 3 (.idx (.slot 7) (.cst (.int 0))))
 .nil))
 .nil)))
 (.cons (.ret (.tup (.cons (.blt .tuple (.cons (.lc [6] (.nm 6) (.dat (.idx (.slot 0) (.cst (.int 0)))) .nil (.blt .tuple (.cons (.dget (.slot 5) (.idx (.slot 6) (.cst (.int 0)))) .nil))) .nil)) (.cons (.slot 3) .nil))))
 .nil))))
def B__law_went (j__law_push : Nat) (g__law_push : List D → R D) : Ss := (.cons (.own 3 (.lst .nil))
 (.cons (.for (.t2 (.nm 4) (.nm 5)) (.dat (.slot 2)) (.cons (.asn (.t2 (.nm 1) (.nm 6)) (.call j__law_push g__law_push (.cons (.slot 0) (.cons (.slot 1) (.cons (.slot 4) (.cons (.slot 5) (.cons (.cst (.int 1)) .nil)))))))
 (.cons (.app 3 (.tup (.cons (.slot 4) (.cons (.slot 6) .nil))))
 .nil)))
 (.cons (.frz 3)
 (.cons (.ret (.tup (.cons (.slot 1) (.cons (.slot 3) .nil))))
 .nil))))
def B__law_unlike : Ss := (.cons (.par (.cons 1 true (.lst .nil) (.cons 2 false (.cst (.int 0)) .nil)))
 (.cons (.for (.t2 (.nm 3) (.nm 4)) (.dat (.idx (.slot 0) (.cst (.int 0)))) (.cons (.app 1 (.blt .tuple (.cons (.lc [5] (.nm 5) (.rg1 (.slot 4)) .nil (.bin .add (.cst (.str "u")) (.idx (.cst (.str "abcdefghijklmnopqrstuvwxyz")) (.bin .add (.slot 2) (.slot 5))))) .nil)))
 (.cons (.asn (.nm 2) (.bin .add (.slot 2) (.slot 4)))
 .nil)))
 (.cons (.ret (.blt .tuple (.cons (.bor 1) .nil)))
 .nil)))
def B_is_run_of (j_is_push_of : Nat) (g_is_push_of : List D → R D) : Ss := (.cons (.ret (.and (.isi (.slot 1) .list) (.and (.cmp .le (.blt .len (.cons (.slot 1) .nil)) (.glo "MOST_RUN" (.int 3000))) (.blt .all (.cons (.lc [2] (.nm 2) (.dat (.slot 1)) .nil (.call j_is_push_of g_is_push_of (.cons (.slot 0) (.cons (.slot 2) .nil)))) .nil)))))
 .nil)
def B_look_run (j_is_run_of : Nat) (g_is_run_of : List D → R D) : Ss := (.cons (.ife (.not (.call j_is_run_of g_is_run_of (.cons (.slot 0) (.cons (.slot 1) .nil)))) (.cons (.rse "NoRun")
 .nil) .nil)
 .nil)
def B_plain_run (j_plain_pushed : Nat) (g_plain_pushed : List D → R D) : Ss := (.cons (.own 3 (.lst .nil))
 (.cons (.for (.nm 4) (.dat (.slot 2)) (.cons (.asn (.t2 (.nm 1) (.nm 5)) (.call j_plain_pushed g_plain_pushed (.cons (.slot 0) (.cons (.slot 1) (.cons (.slot 4) .nil)))))
 (.cons (.app 3 (.tup (.cons (.idx (.slot 4) (.cst (.int 0))) (.cons (.slot 5) .nil))))
 .nil)))
 (.cons (.frz 3)
 (.cons (.ret (.tup (.cons (.slot 1) (.cons (.slot 3) .nil))))
 .nil))))
def B_behind (j_look_net : Nat) (g_look_net : List D → R D) (j_look_state : Nat) (g_look_state : List D → R D) (j_look_run : Nat) (g_look_run : List D → R D) (j_plain_run : Nat) (g_plain_run : List D → R D) : Ss := (.cons (.exp (.call j_look_net g_look_net (.cons (.slot 0) .nil)))
 (.cons (.exp (.call j_look_state g_look_state (.cons (.slot 0) (.cons (.slot 1) .nil))))
 (.cons (.exp (.call j_look_run g_look_run (.cons (.slot 0) (.cons (.slot 2) .nil))))
 (.cons (.ret (.call j_plain_run g_plain_run (.cons (.slot 0) (.cons (.slot 1) (.cons (.slot 2) .nil)))))
 .nil))))
def B_look_way (j_ways_in : Nat) (g_ways_in : List D → R D) (j_is_name : Nat) (g_is_name : List D → R D) : Ss := (.cons (.ife (.or (.not (.call j_is_name g_is_name (.cons (.slot 1) .nil))) (.cmp .notin (.slot 1) (.call j_ways_in g_ways_in (.cons (.slot 0) .nil)))) (.cons (.rse "NoWay")
 .nil) .nil)
 .nil)
def B_outs_of (j_look_net : Nat) (g_look_net : List D → R D) (j_look_state : Nat) (g_look_state : List D → R D) (j_look_run : Nat) (g_look_run : List D → R D) (j_look_way : Nat) (g_look_way : List D → R D) (j_plain_run : Nat) (g_plain_run : List D → R D) : Ss := (.cons (.exp (.call j_look_net g_look_net (.cons (.slot 0) .nil)))
 (.cons (.exp (.call j_look_state g_look_state (.cons (.slot 0) (.cons (.slot 1) .nil))))
 (.cons (.exp (.call j_look_run g_look_run (.cons (.slot 0) (.cons (.slot 2) .nil))))
 (.cons (.exp (.call j_look_way g_look_way (.cons (.slot 0) (.cons (.slot 3) .nil))))
 (.cons (.ret (.lc [4, 5] (.t2 (.nm 4) (.nm 5)) (.dat (.idx (.call j_plain_run g_plain_run (.cons (.slot 0) (.cons (.slot 1) (.cons (.slot 2) .nil)))) (.cst (.int 1)))) (.one (.cmp .eq (.slot 4) (.slot 3))) (.slot 5)))
 .nil)))))
def B_is_run (j_look_net : Nat) (g_look_net : List D → R D) (j_is_run_of : Nat) (g_is_run_of : List D → R D) : Ss := (.cons (.exp (.call j_look_net g_look_net (.cons (.slot 0) .nil)))
 (.cons (.ret (.call j_is_run_of g_is_run_of (.cons (.slot 0) (.cons (.slot 1) .nil))))
 .nil))
def B_delay (j_look_net : Nat) (g_look_net : List D → R D) (j_look_way : Nat) (g_look_way : List D → R D) (j_row_of : Nat) (g_row_of : List D → R D) : Ss := (.cons (.exp (.call j_look_net g_look_net (.cons (.slot 0) .nil)))
 (.cons (.exp (.call j_look_way g_look_way (.cons (.slot 0) (.cons (.slot 1) .nil))))
 (.cons (.ret (.blt .sum (.cons (.lc [2] (.nm 2) (.dat (.call j_row_of g_row_of (.cons (.slot 0) (.cons (.slot 1) .nil)))) .nil (.dget (.of false (.idx (.slot 0) (.cst (.int 0)))) (.slot 2))) .nil)))
 .nil)))
def B_is_spot_of (j_pipes_in : Nat) (g_pipes_in : List D → R D) (j_is_pair : Nat) (g_is_pair : List D → R D) (j_is_whole : Nat) (g_is_whole : List D → R D) : Ss := (.cons (.ife (.or (.not (.call j_is_pair g_is_pair (.cons (.slot 1) .nil))) (.cmp .notin (.idx (.slot 1) (.cst (.int 0))) (.call j_pipes_in g_pipes_in (.cons (.slot 0) .nil)))) (.cons (.ret (.cst (.bool false)))
 .nil) .nil)
 (.cons (.ret (.call j_is_whole g_is_whole (.cons (.idx (.slot 1) (.cst (.int 1))) (.cons (.cst (.int 0)) (.cons (.bin .sub (.dget (.of false (.idx (.slot 0) (.cst (.int 0)))) (.idx (.slot 1) (.cst (.int 0)))) (.cst (.int 1))) .nil)))))
 .nil))
def B_look_spot (j_is_spot_of : Nat) (g_is_spot_of : List D → R D) : Ss := (.cons (.ife (.not (.call j_is_spot_of g_is_spot_of (.cons (.slot 0) (.cons (.slot 1) .nil)))) (.cons (.rse "NoSpot")
 .nil) .nil)
 .nil)
def B_look_asked (j_look_net : Nat) (g_look_net : List D → R D) (j_look_run : Nat) (g_look_run : List D → R D) (j_look_spot : Nat) (g_look_spot : List D → R D) : Ss := (.cons (.exp (.call j_look_net g_look_net (.cons (.slot 0) .nil)))
 (.cons (.exp (.call j_look_run g_look_run (.cons (.slot 0) (.cons (.slot 1) .nil))))
 (.cons (.exp (.call j_look_spot g_look_spot (.cons (.slot 0) (.cons (.slot 2) .nil))))
 .nil)))
def B_marked : Ss := (.cons (.ret (.blt .tuple (.cons (.lc [1, 2] (.t2 (.nm 1) (.nm 2)) (.dat (.idx (.slot 0) (.cst (.int 0)))) .nil (.blt .tuple (.cons (.lc [3] (.nm 3) (.rg1 (.slot 2)) .nil (.tup (.cons (.slot 1) (.cons (.slot 3) .nil)))) .nil))) .nil)))
 .nil)
def B_traced (j_plain_run : Nat) (g_plain_run : List D → R D) (j_marked : Nat) (g_marked : List D → R D) : Ss := (.cons (.asn (.t2 (.nm 2) (.nm 3)) (.call j_plain_run g_plain_run (.cons (.slot 0) (.cons (.call j_marked g_marked (.cons (.slot 0) .nil)) (.cons (.lc [4, 5] (.t2 (.nm 4) (.nm 5)) (.enu (.slot 1)) .nil (.tup (.cons (.idx (.slot 5) (.cst (.int 0))) (.cons (.slot 4) .nil)))) .nil)))))
 (.cons (.ret (.tup (.cons (.slot 2) (.cons (.lc [6, 7] (.t2 (.nm 6) (.nm 7)) (.dat (.slot 3)) .nil (.slot 7)) .nil))))
 .nil))
def B_spots_in : Ss := (.cons (.ret (.lc2 [1, 2, 3] (.t2 (.nm 1) (.nm 2)) (.dat (.idx (.slot 0) (.cst (.int 0)))) .nil (.nm 3) (.rg1 (.slot 2)) .nil (.tup (.cons (.slot 1) (.cons (.slot 3) .nil)))))
 .nil)
def B_places_of (j_spots_in : Nat) (g_spots_in : List D → R D) (j_pipes_in : Nat) (g_pipes_in : List D → R D) : Ss := (.cons (.ret (.lc [2] (.nm 2) (.dat (.call j_spots_in g_spots_in (.cons (.slot 0) .nil))) .nil (.tup (.cons (.slot 2) (.cons (.idx (.idx (.slot 1) (.met .index (.call j_pipes_in g_pipes_in (.cons (.slot 0) .nil)) (.cons (.idx (.slot 2) (.cst (.int 0))) .nil))) (.idx (.slot 2) (.cst (.int 1)))) .nil)))))
 .nil)
def B_where (j_look_asked : Nat) (g_look_asked : List D → R D) (j_traced : Nat) (g_traced : List D → R D) (j_places_of : Nat) (g_places_of : List D → R D) : Ss := (.cons (.exp (.call j_look_asked g_look_asked (.cons (.slot 0) (.cons (.slot 1) (.cons (.slot 2) .nil)))))
 (.cons (.asn (.t2 (.nm 3) (.nm 4)) (.call j_traced g_traced (.cons (.slot 0) (.cons (.slot 1) .nil))))
 (.cons (.ife (.cmp .isin (.slot 2) (.slot 4)) (.cons (.ret (.met .index (.slot 4) (.cons (.slot 2) .nil)))
 .nil) .nil)
 (.cons (.ret (.idx (.lc [5, 6] (.t2 (.nm 5) (.nm 6)) (.dat (.call j_places_of g_places_of (.cons (.slot 0) (.cons (.slot 3) .nil)))) (.one (.cmp .eq (.slot 6) (.slot 2))) (.slot 5)) (.cst (.int 0))))
 .nil))))
def B_whence (j_look_asked : Nat) (g_look_asked : List D → R D) (j_places_of : Nat) (g_places_of : List D → R D) (j_traced : Nat) (g_traced : List D → R D) : Ss := (.cons (.exp (.call j_look_asked g_look_asked (.cons (.slot 0) (.cons (.slot 1) (.cons (.slot 2) .nil)))))
 (.cons (.ret (.dget (.of true (.call j_places_of g_places_of (.cons (.slot 0) (.cons (.idx (.call j_traced g_traced (.cons (.slot 0) (.cons (.slot 1) .nil))) (.cst (.int 0))) .nil)))) (.slot 2)))
 .nil))
def B__law_run (j__law_pick : Nat) (g__law_pick : List D → R D) : Ss := (.cons (.own 5 (.lst .nil))
 (.cons (.for (.nm 6) (.rg1 (.call j__law_pick g__law_pick (.cons (.slot 0) (.cons (.slot 1) (.cons (.bin .add (.slot 3) (.cst (.int 1))) .nil))))) (.cons (.asn (.nm 7) (.idx (.idx (.idx (.slot 2) (.cst (.int 1))) (.call j__law_pick g__law_pick (.cons (.slot 0) (.cons (.bin .add (.bin .add (.slot 1) (.cst (.int 1))) (.bin .mul (.cst (.int 2)) (.slot 6))) (.cons (.blt .len (.cons (.idx (.slot 2) (.cst (.int 1))) .nil)) .nil))))) (.cst (.int 0))))
 (.cons (.app 5 (.tup (.cons (.slot 7) (.cons (.idx (.slot 4) (.call j__law_pick g__law_pick (.cons (.slot 0) (.cons (.bin .add (.bin .add (.slot 1) (.cst (.int 2))) (.bin .mul (.cst (.int 2)) (.slot 6))) (.cons (.blt .len (.cons (.slot 4) .nil)) .nil))))) .nil))))
 .nil)))
 (.cons (.frz 5)
 (.cons (.ret (.slot 5))
 .nil))))
def B__law_order (j__law_drawn : Nat) (g__law_drawn : List D → R D) : Ss := (.cons (.asn (.nm 4) (.call j__law_drawn g__law_drawn (.cons (.slot 0) (.cons (.slot 1) (.cons (.bin .add (.slot 3) (.cst (.int 1))) .nil)))))
 (.cons (.ret (.lc [5] (.nm 5) (.rg1 (.slot 4)) .nil (.idx (.idx (.idx (.slot 2) (.cst (.int 1))) (.call j__law_drawn g__law_drawn (.cons (.slot 0) (.cons (.bin .add (.bin .add (.slot 1) (.cst (.int 1))) (.slot 5)) (.cons (.blt .len (.cons (.idx (.slot 2) (.cst (.int 1))) .nil)) .nil))))) (.cst (.int 0)))))
 .nil))
def B_is_order_of (j_ways_in : Nat) (g_ways_in : List D → R D) (j_is_name : Nat) (g_is_name : List D → R D) : Ss := (.cons (.ife (.or (.not (.isi (.slot 1) .list)) (.cmp .gt (.blt .len (.cons (.slot 1) .nil)) (.glo "MOST_ORDER" (.int 40)))) (.cons (.ret (.cst (.bool false)))
 .nil) .nil)
 (.cons (.ret (.blt .all (.cons (.lc [2] (.nm 2) (.dat (.slot 1)) .nil (.and (.call j_is_name g_is_name (.cons (.slot 2) .nil)) (.cmp .isin (.slot 2) (.call j_ways_in g_ways_in (.cons (.slot 0) .nil))))) .nil)))
 .nil))
def B_look_order (j_is_order_of : Nat) (g_is_order_of : List D → R D) : Ss := (.cons (.ife (.not (.call j_is_order_of g_is_order_of (.cons (.slot 0) (.cons (.slot 1) .nil)))) (.cons (.rse "NoOrder")
 .nil) .nil)
 .nil)
def B_look_both (j_look_net : Nat) (g_look_net : List D → R D) (j_look_order : Nat) (g_look_order : List D → R D) : Ss := (.cons (.exp (.call j_look_net g_look_net (.cons (.slot 0) .nil)))
 (.cons (.exp (.call j_look_order g_look_order (.cons (.slot 0) (.cons (.slot 1) .nil))))
 (.cons (.exp (.call j_look_order g_look_order (.cons (.slot 0) (.cons (.slot 2) .nil))))
 (.cons (.ife (.cmp .ne (.blt .sorted (.cons (.slot 1) .nil)) (.blt .sorted (.cons (.slot 2) .nil))) (.cons (.rse "NoOrder")
 .nil) .nil)
 .nil))))
def B_is_start (j_is_state_of : Nat) (g_is_state_of : List D → R D) (j_ways_in : Nat) (g_ways_in : List D → R D) (j_is_name : Nat) (g_is_name : List D → R D) : Ss := (.cons (.ife (.or (.not (.isi (.slot 2) .tuple)) (.or (.cmp .ne (.blt .len (.cons (.slot 2) .nil)) (.cst (.int 2))) (.not (.call j_is_state_of g_is_state_of (.cons (.slot 0) (.cons (.idx (.slot 2) (.cst (.int 0))) .nil)))))) (.cons (.ret (.cst (.bool false)))
 .nil) .nil)
 (.cons (.par (.cons 3 false (.idx (.slot 2) (.cst (.int 1))) (.cons 4 false (.call j_ways_in g_ways_in (.cons (.slot 0) .nil)) .nil)))
 (.cons (.ife (.or (.not (.isi (.slot 3) .tuple)) (.or (.cmp .ne (.blt .len (.cons (.slot 3) .nil)) (.blt .len (.cons (.slot 4) .nil))) (.not (.blt .all (.cons (.lc [5] (.nm 5) (.dat (.slot 3)) .nil (.isi (.slot 5) .tuple)) .nil))))) (.cons (.ret (.cst (.bool false)))
 .nil) .nil)
 (.cons (.ife (.not (.blt .all (.cons (.lc [5, 6] (.t2 (.nm 5) (.nm 6)) (.zip (.slot 3) (.slot 4)) .nil (.cmp .eq (.blt .len (.cons (.slot 5) .nil)) (.met .count (.slot 1) (.cons (.slot 6) .nil)))) .nil))) (.cons (.ret (.cst (.bool false)))
 .nil) .nil)
 (.cons (.ret (.blt .all (.cons (.lc2 [5, 7] (.nm 5) (.dat (.slot 3)) .nil (.nm 7) (.dat (.slot 5)) .nil (.call j_is_name g_is_name (.cons (.slot 7) .nil))) .nil)))
 .nil)))))
def B_do_part (j_gone : Nat) (g_gone : List D → R D) : Ss := (.cons (.ret (.cmp .ne (.call j_gone g_gone (.cons (.slot 0) (.cons (.slot 1) (.cons (.slot 3) .nil)))) (.call j_gone g_gone (.cons (.slot 0) (.cons (.slot 2) (.cons (.slot 3) .nil))))))
 .nil)
def B_is_parting (j_look_both : Nat) (g_look_both : List D → R D) (j_do_part : Nat) (g_do_part : List D → R D) (j_is_start : Nat) (g_is_start : List D → R D) : Ss := (.cons (.exp (.call j_look_both g_look_both (.cons (.slot 0) (.cons (.slot 1) (.cons (.slot 2) .nil)))))
 (.cons (.ret (.and (.call j_is_start g_is_start (.cons (.slot 0) (.cons (.slot 1) (.cons (.slot 3) .nil)))) (.call j_do_part g_do_part (.cons (.slot 0) (.cons (.slot 1) (.cons (.slot 2) (.cons (.slot 3) .nil)))))))
 .nil))
def B_meet (j_row_of : Nat) (g_row_of : List D → R D) : Ss := (.cons (.ret (.blt .any (.cons (.lc [3] (.nm 3) (.dat (.call j_row_of g_row_of (.cons (.slot 0) (.cons (.slot 1) .nil)))) .nil (.cmp .isin (.slot 3) (.call j_row_of g_row_of (.cons (.slot 0) (.cons (.slot 2) .nil))))) .nil)))
 .nil)
def B_do_meet (j_look_net : Nat) (g_look_net : List D → R D) (j_look_way : Nat) (g_look_way : List D → R D) (j_meet : Nat) (g_meet : List D → R D) : Ss := (.cons (.exp (.call j_look_net g_look_net (.cons (.slot 0) .nil)))
 (.cons (.exp (.call j_look_way g_look_way (.cons (.slot 0) (.cons (.slot 1) .nil))))
 (.cons (.exp (.call j_look_way g_look_way (.cons (.slot 0) (.cons (.slot 2) .nil))))
 (.cons (.ret (.call j_meet g_meet (.cons (.slot 0) (.cons (.slot 1) (.cons (.slot 2) .nil)))))
 .nil))))
def B_plain_passing (j_row_of : Nat) (g_row_of : List D → R D) : Ss := (.cons (.ret (.lc [3] (.nm 3) (.dat (.slot 1)) (.one (.cmp .isin (.slot 2) (.call j_row_of g_row_of (.cons (.slot 0) (.cons (.slot 3) .nil))))) (.slot 3)))
 .nil)
def B_are_exchanged (j_look_net : Nat) (g_look_net : List D → R D) (j_look_order : Nat) (g_look_order : List D → R D) (j_pipes_in : Nat) (g_pipes_in : List D → R D) (j_plain_passing : Nat) (g_plain_passing : List D → R D) : Ss := (.cons (.exp (.call j_look_net g_look_net (.cons (.slot 0) .nil)))
 (.cons (.exp (.call j_look_order g_look_order (.cons (.slot 0) (.cons (.slot 1) .nil))))
 (.cons (.exp (.call j_look_order g_look_order (.cons (.slot 0) (.cons (.slot 2) .nil))))
 (.cons (.ret (.blt .all (.cons (.lc [3] (.nm 3) (.dat (.call j_pipes_in g_pipes_in (.cons (.slot 0) .nil))) .nil (.cmp .eq (.call j_plain_passing g_plain_passing (.cons (.slot 0) (.cons (.slot 1) (.cons (.slot 3) .nil)))) (.call j_plain_passing g_plain_passing (.cons (.slot 0) (.cons (.slot 2) (.cons (.slot 3) .nil)))))) .nil)))
 .nil))))
def B_unlike_slugs : Ss := (.cons (.ret (.sli (.lc2 [1, 2] (.nm 1) (.dat (.glo "SMALL_orders" (.str "abcdefghijklmnopqrstuvwxyz"))) .nil (.nm 2) (.dat (.glo "SMALL_orders" (.str "abcdefghijklmnopqrstuvwxyz"))) .nil (.bin .add (.slot 1) (.slot 2))) .non (.som (.slot 0))))
 .nil)
def B_unlike_start (j_ways_in : Nat) (g_ways_in : List D → R D) (j_unlike_slugs : Nat) (g_unlike_slugs : List D → R D) : Ss := (.cons (.asn (.nm 2) (.bin .add (.lc [3, 4] (.t2 (.nm 3) (.nm 4)) (.dat (.idx (.slot 0) (.cst (.int 0)))) .nil (.slot 4)) (.lc [5] (.nm 5) (.dat (.call j_ways_in g_ways_in (.cons (.slot 0) .nil))) .nil (.met .count (.slot 1) (.cons (.slot 5) .nil)))))
 (.cons (.par (.cons 6 false (.call j_unlike_slugs g_unlike_slugs (.cons (.blt .sum (.cons (.slot 2) .nil)) .nil)) (.cons 7 true (.lst .nil) .nil)))
 (.cons (.for (.nm 8) (.dat (.slot 2)) (.cons (.app 7 (.blt .tuple (.cons (.sli (.slot 6) .non (.som (.slot 8))) .nil)))
 (.cons (.asn (.nm 6) (.sli (.slot 6) (.som (.slot 8)) .non))
 .nil)))
 (.cons (.ret (.tup (.cons (.blt .tuple (.cons (.sli (.bor 7) .non (.som (.blt .len (.cons (.idx (.slot 0) (.cst (.int 0))) .nil)))) .nil)) (.cons (.blt .tuple (.cons (.sli (.bor 7) (.som (.blt .len (.cons (.idx (.slot 0) (.cst (.int 0))) .nil))) .non) .nil)) .nil))))
 .nil))))
def B_are_alike (j_look_both : Nat) (g_look_both : List D → R D) (j_do_part : Nat) (g_do_part : List D → R D) (j_unlike_start : Nat) (g_unlike_start : List D → R D) : Ss := (.cons (.exp (.call j_look_both g_look_both (.cons (.slot 0) (.cons (.slot 1) (.cons (.slot 2) .nil)))))
 (.cons (.ret (.not (.call j_do_part g_do_part (.cons (.slot 0) (.cons (.slot 1) (.cons (.slot 2) (.cons (.call j_unlike_start g_unlike_start (.cons (.slot 0) (.cons (.slot 1) .nil))) .nil)))))))
 .nil))
def B_parting (j_look_both : Nat) (g_look_both : List D → R D) (j_unlike_start : Nat) (g_unlike_start : List D → R D) (j_do_part : Nat) (g_do_part : List D → R D) : Ss := (.cons (.exp (.call j_look_both g_look_both (.cons (.slot 0) (.cons (.slot 1) (.cons (.slot 2) .nil)))))
 (.cons (.asn (.nm 3) (.call j_unlike_start g_unlike_start (.cons (.slot 0) (.cons (.slot 1) .nil))))
 (.cons (.ret (.ite (.call j_do_part g_do_part (.cons (.slot 0) (.cons (.slot 1) (.cons (.slot 2) (.cons (.slot 3) .nil))))) (.slot 3) (.cst .none)))
 .nil)))
def B_passing (j_look_net : Nat) (g_look_net : List D → R D) (j_look_order : Nat) (g_look_order : List D → R D) (j_look_pipe : Nat) (g_look_pipe : List D → R D) (j_plain_passing : Nat) (g_plain_passing : List D → R D) : Ss := (.cons (.exp (.call j_look_net g_look_net (.cons (.slot 0) .nil)))
 (.cons (.exp (.call j_look_order g_look_order (.cons (.slot 0) (.cons (.slot 1) .nil))))
 (.cons (.exp (.call j_look_pipe g_look_pipe (.cons (.slot 0) (.cons (.slot 2) .nil))))
 (.cons (.ret (.call j_plain_passing g_plain_passing (.cons (.slot 0) (.cons (.slot 1) (.cons (.slot 2) .nil)))))
 .nil))))
def B_is_order (j_look_net : Nat) (g_look_net : List D → R D) (j_is_order_of : Nat) (g_is_order_of : List D → R D) : Ss := (.cons (.exp (.call j_look_net g_look_net (.cons (.slot 0) .nil)))
 (.cons (.ret (.call j_is_order_of g_is_order_of (.cons (.slot 0) (.cons (.slot 1) .nil))))
 .nil))
def B_free_in (j_meet : Nat) (g_meet : List D → R D) : Ss := (.cons (.ret (.lc [2, 3] (.t2 (.nm 2) (.nm 3)) (.enu (.slot 1)) (.one (.not (.blt .any (.cons (.lc [4] (.nm 4) (.dat (.sli (.slot 1) .non (.som (.slot 2)))) .nil (.call j_meet g_meet (.cons (.slot 0) (.cons (.slot 3) (.cons (.slot 4) .nil))))) .nil)))) (.slot 2)))
 .nil)
def B_least_order (j_look_net : Nat) (g_look_net : List D → R D) (j_look_order : Nat) (g_look_order : List D → R D) (j_free_in : Nat) (g_free_in : List D → R D) : Ss := (.cons (.exp (.call j_look_net g_look_net (.cons (.slot 0) .nil)))
 (.cons (.exp (.call j_look_order g_look_order (.cons (.slot 0) (.cons (.slot 1) .nil))))
 (.cons (.par (.cons 2 false (.blt .list (.cons (.slot 1) .nil)) (.cons 3 true (.lst .nil) .nil)))
 (.cons (.whl (.cmp .ne (.slot 2) (.lst .nil)) (.cons (.asn (.t2 (.nm 4) (.nm 5)) (.blt .min1 (.cons (.lc [5] (.nm 5) (.dat (.call j_free_in g_free_in (.cons (.slot 0) (.cons (.slot 2) .nil)))) .nil (.tup (.cons (.idx (.slot 2) (.slot 5)) (.cons (.slot 5) .nil)))) .nil)))
 (.cons (.app 3 (.slot 4))
 (.cons (.asn (.nm 2) (.bin .add (.sli (.slot 2) .non (.som (.slot 5))) (.sli (.slot 2) (.som (.bin .add (.slot 5) (.cst (.int 1)))) .non)))
 .nil))))
 (.cons (.frz 3)
 (.cons (.ret (.slot 3))
 .nil))))))
def B_rounds (j_look_net : Nat) (g_look_net : List D → R D) (j_look_order : Nat) (g_look_order : List D → R D) (j_free_in : Nat) (g_free_in : List D → R D) : Ss := (.cons (.exp (.call j_look_net g_look_net (.cons (.slot 0) .nil)))
 (.cons (.exp (.call j_look_order g_look_order (.cons (.slot 0) (.cons (.slot 1) .nil))))
 (.cons (.par (.cons 2 false (.blt .list (.cons (.slot 1) .nil)) (.cons 3 true (.lst .nil) .nil)))
 (.cons (.whl (.cmp .ne (.slot 2) (.lst .nil)) (.cons (.asn (.nm 4) (.call j_free_in g_free_in (.cons (.slot 0) (.cons (.slot 2) .nil))))
 (.cons (.app 3 (.blt .sorted (.cons (.lc [5] (.nm 5) (.dat (.slot 4)) .nil (.idx (.slot 2) (.slot 5))) .nil)))
 (.cons (.asn (.nm 2) (.lc [5, 6] (.t2 (.nm 5) (.nm 6)) (.enu (.slot 2)) (.one (.cmp .notin (.slot 5) (.slot 4))) (.slot 6)))
 .nil))))
 (.cons (.frz 3)
 (.cons (.ret (.slot 3))
 .nil))))))
def B_are_feeds_of (j_is_name : Nat) (g_is_name : List D → R D) : Ss := (.cons (.ife (.or (.not (.isi (.slot 1) .tuple)) (.or (.cmp .ne (.blt .len (.cons (.slot 1) .nil)) (.blt .len (.cons (.idx (.slot 0) (.cst (.int 0))) .nil))) (.not (.blt .all (.cons (.lc [2] (.nm 2) (.dat (.slot 1)) .nil (.isi (.slot 2) .tuple)) .nil))))) (.cons (.ret (.cst (.bool false)))
 .nil) .nil)
 (.cons (.ret (.and (.blt .all (.cons (.lc [2] (.nm 2) (.dat (.slot 1)) .nil (.cmp .le (.blt .len (.cons (.slot 2) .nil)) (.glo "MOST_FEED" (.int 40)))) .nil)) (.blt .all (.cons (.lc2 [2, 3] (.nm 2) (.dat (.slot 1)) .nil (.nm 3) (.dat (.slot 2)) .nil (.call j_is_name g_is_name (.cons (.slot 3) .nil))) .nil))))
 .nil))
def B_are_feeds (j_look_net : Nat) (g_look_net : List D → R D) (j_are_feeds_of : Nat) (g_are_feeds_of : List D → R D) : Ss := (.cons (.exp (.call j_look_net g_look_net (.cons (.slot 0) .nil)))
 (.cons (.ret (.call j_are_feeds_of g_are_feeds_of (.cons (.slot 0) (.cons (.slot 1) .nil))))
 .nil))
def B_look_feeds (j_are_feeds_of : Nat) (g_are_feeds_of : List D → R D) : Ss := (.cons (.ife (.not (.call j_are_feeds_of g_are_feeds_of (.cons (.slot 0) (.cons (.slot 1) .nil)))) (.cons (.rse "NoFeeds")
 .nil) .nil)
 .nil)
def B_fed (j_look_net : Nat) (g_look_net : List D → R D) (j_look_order : Nat) (g_look_order : List D → R D) (j_look_feeds : Nat) (g_look_feeds : List D → R D) (j_plain_fed : Nat) (g_plain_fed : List D → R D) : Ss := (.cons (.exp (.call j_look_net g_look_net (.cons (.slot 0) .nil)))
 (.cons (.exp (.call j_look_order g_look_order (.cons (.slot 0) (.cons (.slot 1) .nil))))
 (.cons (.exp (.call j_look_feeds g_look_feeds (.cons (.slot 0) (.cons (.slot 2) .nil))))
 (.cons (.asn (.nm 3) (.call j_plain_fed g_plain_fed (.cons (.slot 0) (.cons (.slot 1) (.cons (.slot 2) .nil)))))
 (.cons (.ife (.isk false (.slot 3) .non) (.cons (.rse "NoFeeds")
 .nil) .nil)
 (.cons (.ret (.slot 3))
 .nil))))))
def B_ahead_of (j_row_of : Nat) (g_row_of : List D → R D) : Ss := (.cons (.asn (.nm 3) (.call j_row_of g_row_of (.cons (.slot 0) (.cons (.slot 1) .nil))))
 (.cons (.ret (.sli (.slot 3) .non (.som (.met .index (.slot 3) (.cons (.slot 2) .nil)))))
 .nil))
def B_is_plain_counted (j_plain_through : Nat) (g_plain_through : List D → R D) (j_ahead_of : Nat) (g_ahead_of : List D → R D) : Ss := (.cons (.asn (.nm 2) (.call j_plain_through g_plain_through (.cons (.slot 0) (.cons (.slot 1) .nil))))
 (.cons (.asn (.nm 3) (.lc [4] (.nm 4) (.dat (.slot 2)) .nil (.call j_ahead_of g_ahead_of (.cons (.slot 0) (.cons (.slot 4) (.cons (.slot 1) .nil))))))
 (.cons (.ife (.blt .any (.cons (.lc [5] (.nm 5) (.dat (.slot 3)) .nil (.cmp .ne (.slot 5) (.idx (.slot 3) (.cst (.int 0))))) .nil)) (.cons (.ret (.cst (.bool false)))
 .nil) .nil)
 (.cons (.ret (.blt .all (.cons (.lc2 [5, 6] (.nm 5) (.dat (.slot 3)) .nil (.nm 6) (.dat (.slot 5)) .nil (.cmp .eq (.call j_plain_through g_plain_through (.cons (.slot 0) (.cons (.slot 6) .nil))) (.slot 2))) .nil)))
 .nil))))
def B_counted_state (j_look_net : Nat) (g_look_net : List D → R D) (j_look_state : Nat) (g_look_state : List D → R D) (j_look_pipe : Nat) (g_look_pipe : List D → R D) (j_is_plain_counted : Nat) (g_is_plain_counted : List D → R D) (j_look_feeds : Nat) (g_look_feeds : List D → R D) (j_plain_through : Nat) (g_plain_through : List D → R D) (j_pipes_in : Nat) (g_pipes_in : List D → R D) (j_ahead_of : Nat) (g_ahead_of : List D → R D) (j_is_whole : Nat) (g_is_whole : List D → R D) : Ss := (.cons (.exp (.call j_look_net g_look_net (.cons (.slot 0) .nil)))
 (.cons (.exp (.call j_look_state g_look_state (.cons (.slot 0) (.cons (.slot 1) .nil))))
 (.cons (.exp (.call j_look_pipe g_look_pipe (.cons (.slot 0) (.cons (.slot 2) .nil))))
 (.cons (.ife (.not (.call j_is_plain_counted g_is_plain_counted (.cons (.slot 0) (.cons (.slot 2) .nil)))) (.cons (.rse "NoPipe")
 .nil) .nil)
 (.cons (.exp (.call j_look_feeds g_look_feeds (.cons (.slot 0) (.cons (.slot 3) .nil))))
 (.cons (.par (.cons 5 false (.call j_pipes_in g_pipes_in (.cons (.slot 0) .nil)) (.cons 6 false (.call j_plain_through g_plain_through (.cons (.slot 0) (.cons (.slot 2) .nil))) .nil)))
 (.cons (.asn (.nm 7) (.bin .add (.ite (.cmp .ne (.slot 6) (.lst .nil)) (.call j_ahead_of g_ahead_of (.cons (.slot 0) (.cons (.idx (.slot 6) (.cst (.int 0))) (.cons (.slot 2) .nil)))) (.tup .nil)) (.tup (.cons (.slot 2) .nil))))
 (.cons (.asn (.nm 8) (.idx (.slot 3) (.met .index (.slot 5) (.cons (.idx (.slot 7) (.cst (.int 0))) .nil))))
 (.cons (.ife (.or (.not (.call j_is_whole g_is_whole (.cons (.slot 4) (.cons (.cst (.int 0)) (.cons (.glo "MOST_FEED" (.int 40)) .nil))))) (.or (.cmp .gt (.slot 4) (.blt .len (.cons (.slot 8) .nil))) (.and (.cmp .gt (.slot 4) (.cst (.int 0))) (.cmp .eq (.slot 6) (.lst .nil))))) (.cons (.rse "NoNumber")
 .nil) .nil)
 (.cons (.asn (.nm 9) (.rev (.sli (.slot 8) .non (.som (.slot 4)))))
 (.cons (.for (.nm 10) (.dat (.slot 7)) (.cons (.asn (.nm 9) (.bin .add (.slot 9) (.idx (.slot 1) (.met .index (.slot 5) (.cons (.slot 10) .nil)))))
 .nil))
 (.cons (.asn (.nm 11) (.blt .sum (.cons (.lc [10] (.nm 10) (.dat (.sli (.slot 7) .non (.som (.neg (.cst (.int 1)))))) .nil (.blt .len (.cons (.idx (.slot 1) (.met .index (.slot 5) (.cons (.slot 10) .nil))) .nil))) .nil)))
 (.cons (.ret (.sli (.slot 9) (.som (.slot 11)) (.som (.bin .add (.slot 11) (.blt .len (.cons (.idx (.slot 1) (.met .index (.slot 5) (.cons (.slot 2) .nil))) .nil))))))
 .nil)))))))))))))
def B_is_counted (j_look_net : Nat) (g_look_net : List D → R D) (j_look_pipe : Nat) (g_look_pipe : List D → R D) (j_is_plain_counted : Nat) (g_is_plain_counted : List D → R D) : Ss := (.cons (.exp (.call j_look_net g_look_net (.cons (.slot 0) .nil)))
 (.cons (.exp (.call j_look_pipe g_look_pipe (.cons (.slot 0) (.cons (.slot 1) .nil))))
 (.cons (.ret (.call j_is_plain_counted g_is_plain_counted (.cons (.slot 0) (.cons (.slot 1) .nil))))
 .nil)))
def B_unlike_feeds (j_unlike_slugs : Nat) (g_unlike_slugs : List D → R D) : Ss := (.cons (.asn (.nm 2) (.blt .sum (.cons (.lc [3, 4] (.t2 (.nm 3) (.nm 4)) (.dat (.idx (.slot 0) (.cst (.int 0)))) .nil (.slot 4)) .nil)))
 (.cons (.par (.cons 5 false (.call j_unlike_slugs g_unlike_slugs (.cons (.bin .add (.slot 2) (.bin .mul (.blt .len (.cons (.slot 1) .nil)) (.blt .len (.cons (.idx (.slot 0) (.cst (.int 0))) .nil)))) .nil)) (.cons 6 true (.lst .nil) .nil)))
 (.cons (.for (.t2 (.nm 3) (.nm 4)) (.dat (.idx (.slot 0) (.cst (.int 0)))) (.cons (.app 6 (.blt .tuple (.cons (.sli (.slot 5) .non (.som (.slot 4))) .nil)))
 (.cons (.asn (.nm 5) (.sli (.slot 5) (.som (.slot 4)) .non))
 .nil)))
 (.cons (.asn (.nm 7) (.blt .len (.cons (.slot 1) .nil)))
 (.cons (.ret (.tup (.cons (.blt .tuple (.cons (.bor 6) .nil)) (.cons (.blt .tuple (.cons (.lc [8] (.nm 8) (.rg1 (.blt .len (.cons (.idx (.slot 0) (.cst (.int 0))) .nil))) .nil (.blt .tuple (.cons (.sli (.slot 5) (.som (.bin .mul (.slot 8) (.slot 7))) (.som (.bin .mul (.bin .add (.slot 8) (.cst (.int 1))) (.slot 7)))) .nil))) .nil)) .nil))))
 .nil)))))
def B_held (j_plain_run : Nat) (g_plain_run : List D → R D) (j_plain_fed : Nat) (g_plain_fed : List D → R D) (j_pipes_in : Nat) (g_pipes_in : List D → R D) : Ss := (.cons (.asn (.t2 (.nm 4) (.nm 5)) (.slot 3))
 (.cons (.ret (.idx (.idx (.call j_plain_run g_plain_run (.cons (.slot 0) (.cons (.slot 4) (.cons (.call j_plain_fed g_plain_fed (.cons (.slot 0) (.cons (.slot 2) (.cons (.slot 5) .nil)))) .nil)))) (.cst (.int 0))) (.met .index (.call j_pipes_in g_pipes_in (.cons (.slot 0) .nil)) (.cons (.slot 1) .nil))))
 .nil))
def B_unlike_orders (j_look_net : Nat) (g_look_net : List D → R D) (j_look_pipe : Nat) (g_look_pipe : List D → R D) (j_is_plain_counted : Nat) (g_is_plain_counted : List D → R D) (j_ways_in : Nat) (g_ways_in : List D → R D) (j_plain_through : Nat) (g_plain_through : List D → R D) (j_do_part : Nat) (g_do_part : List D → R D) : Ss := (.cons (.exp (.call j_look_net g_look_net (.cons (.slot 0) .nil)))
 (.cons (.exp (.call j_look_pipe g_look_pipe (.cons (.slot 0) (.cons (.slot 1) .nil))))
 (.cons (.ife (.call j_is_plain_counted g_is_plain_counted (.cons (.slot 0) (.cons (.slot 1) .nil))) (.cons (.ret (.cst .none))
 .nil) .nil)
 (.cons (.for (.nm 2) (.rg1 (.bin .add (.glo "MOST_BEHIND" (.int 16)) (.cst (.int 1)))) (.cons (.for (.nm 3) (.dat (.call j_ways_in g_ways_in (.cons (.slot 0) .nil))) (.cons (.for (.nm 4) (.dat (.call j_ways_in g_ways_in (.cons (.slot 0) .nil))) (.cons (.for (.nm 5) (.dat (.call j_plain_through g_plain_through (.cons (.slot 0) (.cons (.slot 1) .nil)))) (.cons (.asn (.nm 6) (.tup (.cons (.bin .add (.lst (.cons (.slot 3) (.cons (.slot 4) .nil))) (.bin .mul (.lst (.cons (.slot 5) .nil)) (.slot 2))) (.cons (.bin .add (.lst (.cons (.slot 4) (.cons (.slot 3) .nil))) (.bin .mul (.lst (.cons (.slot 5) .nil)) (.slot 2))) .nil))))
 (.cons (.ife (.call j_do_part g_do_part (.cons (.slot 0) (.cons (.slot 1) (.cons (.idx (.slot 6) (.cst (.int 0))) (.cons (.idx (.slot 6) (.cst (.int 1))) .nil))))) (.cons (.ret (.slot 6))
 .nil) .nil)
 .nil)))
 .nil))
 .nil))
 .nil))
 (.cons (.ret (.cst .none))
 .nil)))))
def B_are_unlike_orders (j_look_net : Nat) (g_look_net : List D → R D) (j_look_pipe : Nat) (g_look_pipe : List D → R D) (j_is_order_of : Nat) (g_is_order_of : List D → R D) (j_do_part : Nat) (g_do_part : List D → R D) : Ss := (.cons (.exp (.call j_look_net g_look_net (.cons (.slot 0) .nil)))
 (.cons (.exp (.call j_look_pipe g_look_pipe (.cons (.slot 0) (.cons (.slot 1) .nil))))
 (.cons (.ife (.or (.not (.isi (.slot 2) .tuple)) (.or (.cmp .ne (.blt .len (.cons (.slot 2) .nil)) (.cst (.int 2))) (.not (.blt .all (.cons (.lc [3] (.nm 3) (.dat (.slot 2)) .nil (.call j_is_order_of g_is_order_of (.cons (.slot 0) (.cons (.slot 3) .nil)))) .nil))))) (.cons (.ret (.cst (.bool false)))
 .nil) .nil)
 (.cons (.ret (.and (.cmp .eq (.blt .sorted (.cons (.idx (.slot 2) (.cst (.int 0))) .nil)) (.blt .sorted (.cons (.idx (.slot 2) (.cst (.int 1))) .nil))) (.call j_do_part g_do_part (.cons (.slot 0) (.cons (.slot 1) (.cons (.idx (.slot 2) (.cst (.int 0))) (.cons (.idx (.slot 2) (.cst (.int 1))) .nil)))))))
 .nil))))
def B_look_goal (j_look_net : Nat) (g_look_net : List D → R D) (j_look_state : Nat) (g_look_state : List D → R D) : Ss := (.cons (.exp (.call j_look_net g_look_net (.cons (.slot 0) .nil)))
 (.cons (.exp (.call j_look_state g_look_state (.cons (.slot 0) (.cons (.slot 1) .nil))))
 (.cons (.exp (.call j_look_state g_look_state (.cons (.slot 0) (.cons (.slot 2) .nil))))
 .nil)))
def B_all_turns (j_ways_in : Nat) (g_ways_in : List D → R D) : Ss := (.cons (.ret (.lc2 [1, 2] (.nm 1) (.dat (.call j_ways_in g_ways_in (.cons (.slot 0) .nil))) .nil (.nm 2) (.dat (.tup (.cons (.neg (.cst (.int 1))) (.cons (.cst (.int 1)) .nil)))) .nil (.tup (.cons (.slot 1) (.cons (.slot 2) .nil)))))
 .nil)
def B_plain_turned (j_pipes_in : Nat) (g_pipes_in : List D → R D) (j_row_of : Nat) (g_row_of : List D → R D) (j_plain_pushed : Nat) (g_plain_pushed : List D → R D) (j_plain_drawn : Nat) (g_plain_drawn : List D → R D) : Ss := (.cons (.asn (.t2 (.nm 3) (.nm 4)) (.slot 2))
 (.cons (.par (.cons 5 false (.call j_row_of g_row_of (.cons (.slot 0) (.cons (.slot 3) .nil))) (.cons 6 false (.call j_pipes_in g_pipes_in (.cons (.slot 0) .nil)) .nil)))
 (.cons (.ife (.cmp .eq (.slot 4) (.cst (.int 1))) (.cons (.ret (.idx (.call j_plain_pushed g_plain_pushed (.cons (.slot 0) (.cons (.slot 1) (.cons (.tup (.cons (.slot 3) (.cons (.idx (.idx (.slot 1) (.met .index (.slot 6) (.cons (.idx (.slot 5) (.neg (.cst (.int 1)))) .nil))) (.neg (.cst (.int 1)))) .nil))) .nil)))) (.cst (.int 0))))
 .nil) .nil)
 (.cons (.ret (.idx (.call j_plain_drawn g_plain_drawn (.cons (.slot 0) (.cons (.slot 1) (.cons (.tup (.cons (.slot 3) (.cons (.idx (.idx (.slot 1) (.met .index (.slot 6) (.cons (.idx (.slot 5) (.cst (.int 0))) .nil))) (.cst (.int 0))) .nil))) .nil)))) (.cst (.int 0))))
 .nil))))
def B_sorting (j_look_goal : Nat) (g_look_goal : List D → R D) (j_reach : Nat) (g_reach : List D → R D) : Ss := (.cons (.exp (.call j_look_goal g_look_goal (.cons (.slot 0) (.cons (.slot 1) (.cons (.slot 2) .nil)))))
 (.cons (.asn (.nm 3) (.call j_reach g_reach (.cons (.slot 0) (.cons (.slot 1) .nil))))
 (.cons (.ret (.ite (.cmp .isin (.slot 2) (.slot 3)) (.idx (.slot 3) (.slot 2)) (.cst .none)))
 .nil)))
def B_is_turn_of (j_ways_in : Nat) (g_ways_in : List D → R D) (j_is_pair : Nat) (g_is_pair : List D → R D) : Ss := (.cons (.ife (.or (.not (.call j_is_pair g_is_pair (.cons (.slot 1) .nil))) (.cmp .notin (.idx (.slot 1) (.cst (.int 0))) (.call j_ways_in g_ways_in (.cons (.slot 0) .nil)))) (.cons (.ret (.cst (.bool false)))
 .nil) .nil)
 (.cons (.ret (.and (.isi (.idx (.slot 1) (.cst (.int 1))) .int) (.and (.not (.isi (.idx (.slot 1) (.cst (.int 1))) .bool)) (.cmp .isin (.idx (.slot 1) (.cst (.int 1))) (.tup (.cons (.cst (.int 1)) (.cons (.neg (.cst (.int 1))) .nil)))))))
 .nil))
def B_turned (j_look_net : Nat) (g_look_net : List D → R D) (j_look_state : Nat) (g_look_state : List D → R D) (j_is_turn_of : Nat) (g_is_turn_of : List D → R D) (j_plain_turned : Nat) (g_plain_turned : List D → R D) : Ss := (.cons (.exp (.call j_look_net g_look_net (.cons (.slot 0) .nil)))
 (.cons (.exp (.call j_look_state g_look_state (.cons (.slot 0) (.cons (.slot 1) .nil))))
 (.cons (.ife (.not (.call j_is_turn_of g_is_turn_of (.cons (.slot 0) (.cons (.slot 2) .nil)))) (.cons (.rse "NoTurn")
 .nil) .nil)
 (.cons (.ret (.call j_plain_turned g_plain_turned (.cons (.slot 0) (.cons (.slot 1) (.cons (.slot 2) .nil)))))
 .nil))))
def B_plain_turns (j_plain_turned : Nat) (g_plain_turned : List D → R D) : Ss := (.cons (.for (.nm 3) (.dat (.slot 2)) (.cons (.asn (.nm 1) (.call j_plain_turned g_plain_turned (.cons (.slot 0) (.cons (.slot 1) (.cons (.slot 3) .nil)))))
 .nil))
 (.cons (.ret (.slot 1))
 .nil))
def B_are_turns_of (j_is_turn_of : Nat) (g_is_turn_of : List D → R D) : Ss := (.cons (.ret (.and (.isi (.slot 1) .list) (.and (.cmp .le (.blt .len (.cons (.slot 1) .nil)) (.glo "MOST_TURNS" (.int 3000))) (.blt .all (.cons (.lc [2] (.nm 2) (.dat (.slot 1)) .nil (.call j_is_turn_of g_is_turn_of (.cons (.slot 0) (.cons (.slot 2) .nil)))) .nil)))))
 .nil)
def B_behind_turns (j_look_net : Nat) (g_look_net : List D → R D) (j_look_state : Nat) (g_look_state : List D → R D) (j_are_turns_of : Nat) (g_are_turns_of : List D → R D) (j_plain_turns : Nat) (g_plain_turns : List D → R D) : Ss := (.cons (.exp (.call j_look_net g_look_net (.cons (.slot 0) .nil)))
 (.cons (.exp (.call j_look_state g_look_state (.cons (.slot 0) (.cons (.slot 1) .nil))))
 (.cons (.ife (.not (.call j_are_turns_of g_are_turns_of (.cons (.slot 0) (.cons (.slot 2) .nil)))) (.cons (.rse "NoTurns")
 .nil) .nil)
 (.cons (.ret (.call j_plain_turns g_plain_turns (.cons (.slot 0) (.cons (.slot 1) (.cons (.slot 2) .nil)))))
 .nil))))
def B_are_sorting (j_look_goal : Nat) (g_look_goal : List D → R D) (j_plain_turns : Nat) (g_plain_turns : List D → R D) (j_are_turns_of : Nat) (g_are_turns_of : List D → R D) : Ss := (.cons (.exp (.call j_look_goal g_look_goal (.cons (.slot 0) (.cons (.slot 1) (.cons (.slot 2) .nil)))))
 (.cons (.ret (.and (.call j_are_turns_of g_are_turns_of (.cons (.slot 0) (.cons (.slot 3) .nil))) (.cmp .eq (.call j_plain_turns g_plain_turns (.cons (.slot 0) (.cons (.slot 1) (.cons (.slot 3) .nil)))) (.slot 2))))
 .nil))
def B_slugs_in : Ss := (.cons (.ret (.lc2 [1, 2] (.nm 1) (.dat (.slot 0)) .nil (.nm 2) (.dat (.slot 1)) .nil (.slot 2)))
 .nil)
def B_is_even (j_look_net : Nat) (g_look_net : List D → R D) (j_look_state : Nat) (g_look_state : List D → R D) (j_slugs_in : Nat) (g_slugs_in : List D → R D) (j_is_state_of : Nat) (g_is_state_of : List D → R D) : Ss := (.cons (.exp (.call j_look_net g_look_net (.cons (.slot 0) .nil)))
 (.cons (.exp (.call j_look_state g_look_state (.cons (.slot 0) (.cons (.slot 1) .nil))))
 (.cons (.asn (.nm 3) (.call j_slugs_in g_slugs_in (.cons (.slot 1) .nil)))
 (.cons (.ife (.blt .any (.cons (.lc [4, 5] (.t2 (.nm 4) (.nm 5)) (.enu (.slot 3)) .nil (.cmp .isin (.slot 5) (.sli (.slot 3) .non (.som (.slot 4))))) .nil)) (.cons (.rse "NoState")
 .nil) .nil)
 (.cons (.ife (.or (.not (.call j_is_state_of g_is_state_of (.cons (.slot 0) (.cons (.slot 2) .nil)))) (.cmp .ne (.blt .sorted (.cons (.call j_slugs_in g_slugs_in (.cons (.slot 2) .nil)) .nil)) (.blt .sorted (.cons (.slot 3) .nil)))) (.cons (.rse "NoState")
 .nil) .nil)
 (.cons (.asn (.nm 6) (.lc [5] (.nm 5) (.dat (.call j_slugs_in g_slugs_in (.cons (.slot 2) .nil))) .nil (.met .index (.slot 3) (.cons (.slot 5) .nil))))
 (.cons (.ret (.cmp .eq (.bin .mod (.blt .len (.cons (.lc2 [4, 7, 8] (.t2 (.nm 4) (.nm 7)) (.enu (.slot 6)) .nil (.nm 8) (.dat (.sli (.slot 6) (.som (.bin .add (.slot 4) (.cst (.int 1)))) .non)) (.one (.cmp .gt (.slot 7) (.slot 8))) (.cst (.int 1))) .nil)) (.cst (.int 2))) (.cst (.int 0))))
 .nil)))))))
def B_reached (j_look_net : Nat) (g_look_net : List D → R D) (j_look_state : Nat) (g_look_state : List D → R D) (j_reach : Nat) (g_reach : List D → R D) : Ss := (.cons (.exp (.call j_look_net g_look_net (.cons (.slot 0) .nil)))
 (.cons (.exp (.call j_look_state g_look_state (.cons (.slot 0) (.cons (.slot 1) .nil))))
 (.cons (.ret (.blt .sorted (.cons (.call j_reach g_reach (.cons (.slot 0) (.cons (.slot 1) .nil))) .nil)))
 .nil)))
def B_are_turns_even (j_look_net : Nat) (g_look_net : List D → R D) : Ss := (.cons (.exp (.call j_look_net g_look_net (.cons (.slot 0) .nil)))
 (.cons (.dnew 1 (.of false (.idx (.slot 0) (.cst (.int 0)))))
 (.cons (.ret (.blt .all (.cons (.lc [2, 3] (.t2 (.nm 2) (.nm 3)) (.dat (.idx (.slot 0) (.cst (.int 1)))) .nil (.cmp .eq (.bin .mod (.blt .sum (.cons (.lc [4] (.nm 4) (.dat (.slot 3)) .nil (.dget (.slot 1) (.slot 4))) .nil)) (.cst (.int 2))) (.cst (.int 1)))) .nil)))
 .nil)))
def B_net_text (j_look_net : Nat) (g_look_net : List D → R D) (j_plain_text : Nat) (g_plain_text : List D → R D) : Ss := (.cons (.exp (.call j_look_net g_look_net (.cons (.slot 0) .nil)))
 (.cons (.ret (.call j_plain_text g_plain_text (.cons (.slot 0) .nil)))
 .nil))
def B_run_text (j_look_net : Nat) (g_look_net : List D → R D) (j_look_run : Nat) (g_look_run : List D → R D) (j_run_lines : Nat) (g_run_lines : List D → R D) : Ss := (.cons (.exp (.call j_look_net g_look_net (.cons (.slot 0) .nil)))
 (.cons (.exp (.call j_look_run g_look_run (.cons (.slot 0) (.cons (.slot 1) .nil))))
 (.cons (.ret (.call j_run_lines g_run_lines (.cons (.slot 1) .nil)))
 .nil)))
def B__law_pick : Ss := (.cons (.asn (.nm 3) (.ite (.cmp .ne (.slot 0) (.lst .nil)) (.idx (.slot 0) (.bin .mod (.slot 1) (.blt .len (.cons (.slot 0) .nil)))) (.cst (.int 0))))
 (.cons (.par (.cons 4 false (.bin .fdiv (.slot 3) (.bin .pow (.cst (.int 10)) (.cst (.int 18)))) (.cons 5 false (.bin .fdiv (.slot 1) (.blt .max2 (.cons (.blt .len (.cons (.slot 0) .nil)) (.cons (.cst (.int 1)) .nil)))) .nil)))
 (.cons (.whl (.and (.cmp .gt (.slot 4) (.cst (.int 0))) (.cmp .gt (.slot 5) (.cst (.int 0)))) (.cons (.par (.cons 4 false (.bin .fdiv (.slot 4) (.cst (.int 840))) (.cons 5 false (.bin .sub (.slot 5) (.cst (.int 1))) .nil)))
 .nil))
 (.cons (.ife (.cmp .gt (.slot 4) (.cst (.int 0))) (.cons (.ret (.bin .mod (.bin .mod (.slot 4) (.cst (.int 840))) (.slot 2)))
 .nil) .nil)
 (.cons (.asn (.nm 6) (.bin .mod (.bin .mul (.bin .add (.bin .mul (.slot 3) (.cst (.int 31))) (.bin .mul (.cst (.int 6151)) (.bin .add (.slot 1) (.cst (.int 1))))) (.cst (.int 40692))) (.cst (.int 2147483399))))
 (.cons (.ret (.bin .mod (.bin .mod (.bin .add (.bin .mul (.slot 6) (.slot 6)) (.bin .fdiv (.slot 6) (.cst (.int 31)))) (.cst (.int 2147483629))) (.slot 2)))
 .nil))))))
def B__law_wish (j__law_pick : Nat) (g__law_pick : List D → R D) (j__law_state : Nat) (g__law_state : List D → R D) : Ss := (.cons (.asn (.nm 4) (.call j__law_pick g__law_pick (.cons (.slot 0) (.cons (.slot 1) (.cons (.cst (.int 5)) .nil)))))
 (.cons (.ife (.cmp .lt (.slot 4) (.cst (.int 2))) (.cons (.asn (.nm 5) (.lc [6] (.nm 6) (.rg1 (.bin .add (.cst (.int 1)) (.call j__law_pick g__law_pick (.cons (.slot 0) (.cons (.bin .add (.slot 1) (.cst (.int 1))) (.cons (.cst (.int 2)) .nil)))))) .nil (.idx (.slot 3) (.call j__law_pick g__law_pick (.cons (.slot 0) (.cons (.bin .add (.bin .add (.slot 1) (.cst (.int 2))) (.slot 6)) (.cons (.blt .len (.cons (.slot 3) .nil)) .nil)))))))
 (.cons (.ret (.tup (.cons (.cst (.str "out")) (.cons (.idx (.idx (.idx (.slot 2) (.cst (.int 1))) (.call j__law_pick g__law_pick (.cons (.slot 0) (.cons (.bin .add (.slot 1) (.cst (.int 5))) (.cons (.blt .len (.cons (.idx (.slot 2) (.cst (.int 1))) .nil)) .nil))))) (.cst (.int 0))) (.cons (.blt .tuple (.cons (.slot 5) .nil)) .nil)))))
 .nil)) .nil)
 (.cons (.ife (.cmp .lt (.slot 4) (.cst (.int 4))) (.cons (.asn (.nm 7) (.idx (.idx (.idx (.slot 2) (.cst (.int 0))) (.call j__law_pick g__law_pick (.cons (.slot 0) (.cons (.bin .add (.slot 1) (.cst (.int 6))) (.cons (.blt .len (.cons (.idx (.slot 2) (.cst (.int 0))) .nil)) .nil))))) (.cst (.int 0))))
 (.cons (.ret (.tup (.cons (.cst (.str "full")) (.cons (.slot 7) (.cons (.idx (.slot 3) (.call j__law_pick g__law_pick (.cons (.slot 0) (.cons (.bin .add (.slot 1) (.cst (.int 7))) (.cons (.blt .len (.cons (.slot 3) .nil)) .nil))))) .nil)))))
 .nil)) .nil)
 (.cons (.ret (.tup (.cons (.cst (.str "is")) (.cons (.call j__law_state g__law_state (.cons (.slot 0) (.cons (.bin .add (.slot 1) (.cst (.int 8))) (.cons (.slot 2) (.cons (.slot 3) .nil))))) .nil))))
 .nil))))
def B__law_odd (j__law_pick : Nat) (g__law_pick : List D → R D) : Ss := (.cons (.asn (.nm 2) (.lst (.cons (.cst .none) (.cons (.cst (.bool true)) (.cons (.cst (.str "")) (.cons (.cst (.str "A")) (.cons (.cst (.str "5")) (.cons (.lst (.cons (.cst (.int 1)) .nil)) (.cons (.tup (.cons (.cst .none) .nil)) (.cons (.bin .sub (.neg (.cst (.int 1))) (.call j__law_pick g__law_pick (.cons (.slot 0) (.cons (.slot 1) (.cons (.cst (.int 9)) .nil))))) (.cons (.cst (.str "abcde")) .nil)))))))))))
 (.cons (.ret (.bin .add (.slot 2) (.lst (.cons (.lst (.cons (.lst (.cons (.cst (.str "a")) .nil)) .nil)) (.cons (.bin .pow (.cst (.int 10)) (.cst (.int 9))) (.cons (.tup (.cons (.cst (.str "a")) (.cons (.cst (.int 1)) .nil))) .nil))))))
 .nil))
def B_is_wish_of (j_is_state_of : Nat) (g_is_state_of : List D → R D) (j_is_name : Nat) (g_is_name : List D → R D) (j_pipes_in : Nat) (g_pipes_in : List D → R D) (j_ways_in : Nat) (g_ways_in : List D → R D) : Ss := (.cons (.ife (.or (.not (.isi (.slot 1) .tuple)) (.or (.cmp .eq (.slot 1) (.tup .nil)) (.not (.isi (.idx (.slot 1) (.cst (.int 0))) .str)))) (.cons (.ret (.cst (.bool false)))
 .nil) .nil)
 (.cons (.ife (.cmp .eq (.idx (.slot 1) (.cst (.int 0))) (.cst (.str "is"))) (.cons (.ret (.and (.cmp .eq (.blt .len (.cons (.slot 1) .nil)) (.cst (.int 2))) (.call j_is_state_of g_is_state_of (.cons (.slot 0) (.cons (.idx (.slot 1) (.cst (.int 1))) .nil)))))
 .nil) .nil)
 (.cons (.ife (.or (.cmp .ne (.blt .len (.cons (.slot 1) .nil)) (.cst (.int 3))) (.not (.call j_is_name g_is_name (.cons (.idx (.slot 1) (.cst (.int 1))) .nil)))) (.cons (.ret (.cst (.bool false)))
 .nil) .nil)
 (.cons (.ife (.cmp .eq (.idx (.slot 1) (.cst (.int 0))) (.cst (.str "full"))) (.cons (.ret (.and (.cmp .isin (.idx (.slot 1) (.cst (.int 1))) (.call j_pipes_in g_pipes_in (.cons (.slot 0) .nil))) (.call j_is_name g_is_name (.cons (.idx (.slot 1) (.cst (.int 2))) .nil))))
 .nil) .nil)
 (.cons (.ife (.or (.cmp .ne (.idx (.slot 1) (.cst (.int 0))) (.cst (.str "out"))) (.or (.cmp .notin (.idx (.slot 1) (.cst (.int 1))) (.call j_ways_in g_ways_in (.cons (.slot 0) .nil))) (.not (.isi (.idx (.slot 1) (.cst (.int 2))) .tuple)))) (.cons (.ret (.cst (.bool false)))
 .nil) .nil)
 (.cons (.ret (.and (.chn (.cst (.int 1)) (.blt .len (.cons (.idx (.slot 1) (.cst (.int 2))) .nil)) (.glo "MOST_ROW_wishes" (.int 3))) (.blt .all (.cons (.lc [2] (.nm 2) (.dat (.idx (.slot 1) (.cst (.int 2)))) .nil (.call j_is_name g_is_name (.cons (.slot 2) .nil))) .nil))))
 .nil))))))
def B_is_wish (j_look_net : Nat) (g_look_net : List D → R D) (j_is_wish_of : Nat) (g_is_wish_of : List D → R D) : Ss := (.cons (.exp (.call j_look_net g_look_net (.cons (.slot 0) .nil)))
 (.cons (.ret (.call j_is_wish_of g_is_wish_of (.cons (.slot 0) (.cons (.slot 1) .nil))))
 .nil))
def B_look_stock (j_is_name : Nat) (g_is_name : List D → R D) (j_is_rising : Nat) (g_is_rising : List D → R D) : Ss := (.cons (.ife (.or (.not (.isi (.slot 0) .tuple)) (.or (.not (.chn (.cst (.int 1)) (.blt .len (.cons (.slot 0) .nil)) (.glo "MOST_STOCK" (.int 3)))) (.not (.blt .all (.cons (.lc [1] (.nm 1) (.dat (.slot 0)) .nil (.call j_is_name g_is_name (.cons (.slot 1) .nil))) .nil))))) (.cons (.rse "NoStock")
 .nil) .nil)
 (.cons (.ife (.not (.call j_is_rising g_is_rising (.cons (.slot 0) .nil))) (.cons (.rse "NoStock")
 .nil) .nil)
 .nil))
def B_look_wish (j_is_wish_of : Nat) (g_is_wish_of : List D → R D) : Ss := (.cons (.ife (.not (.call j_is_wish_of g_is_wish_of (.cons (.slot 0) (.cons (.slot 1) .nil)))) (.cons (.rse "NoWish")
 .nil) .nil)
 .nil)
def B_look_cost : Ss := (.cons (.ife (.or (.not (.isi (.slot 0) .str)) (.cmp .notin (.slot 0) (.tup (.cons (.glo "PUSHES" (.str "pushes")) (.cons (.glo "MIXING" (.str "mixing")) .nil))))) (.cons (.rse "NoCost")
 .nil) .nil)
 .nil)
def B_look_task (j_look_net : Nat) (g_look_net : List D → R D) (j_look_state : Nat) (g_look_state : List D → R D) (j_look_stock : Nat) (g_look_stock : List D → R D) (j_look_wish : Nat) (g_look_wish : List D → R D) (j_look_cost : Nat) (g_look_cost : List D → R D) : Ss := (.cons (.exp (.call j_look_net g_look_net (.cons (.slot 0) .nil)))
 (.cons (.exp (.call j_look_state g_look_state (.cons (.slot 0) (.cons (.slot 1) .nil))))
 (.cons (.exp (.call j_look_stock g_look_stock (.cons (.slot 2) .nil)))
 (.cons (.exp (.call j_look_wish g_look_wish (.cons (.slot 0) (.cons (.slot 3) .nil))))
 (.cons (.exp (.call j_look_cost g_look_cost (.cons (.slot 4) .nil)))
 .nil)))))
def B_pushes_of (j_ways_in : Nat) (g_ways_in : List D → R D) : Ss := (.cons (.ret (.lc2 [2, 3] (.nm 2) (.dat (.call j_ways_in g_ways_in (.cons (.slot 0) .nil))) .nil (.nm 3) (.dat (.slot 1)) .nil (.tup (.cons (.slot 2) (.cons (.slot 3) .nil)))))
 .nil)
def B_tail_behind : Ss := (.cons (.ife (.or (.cmp .ne (.idx (.slot 0) (.cst (.int 0))) (.cst (.str "out"))) (.cmp .ne (.idx (.slot 0) (.cst (.int 1))) (.slot 2))) (.cons (.ret (.slot 1))
 .nil) .nil)
 (.cons (.ret (.sli (.bin .add (.slot 1) (.tup (.cons (.slot 3) .nil))) (.som (.bin .sub (.cst (.int 0)) (.blt .len (.cons (.idx (.slot 0) (.cst (.int 2))) .nil)))) .non))
 .nil))
def B_line_of (j_pipes_in : Nat) (g_pipes_in : List D → R D) (j_row_of : Nat) (g_row_of : List D → R D) : Ss := (.cons (.par (.cons 3 false (.call j_pipes_in g_pipes_in (.cons (.slot 0) .nil)) (.cons 4 false (.tup (.cons (.idx (.slot 2) (.cst (.int 1))) .nil)) .nil)))
 (.cons (.for (.nm 5) (.dat (.call j_row_of g_row_of (.cons (.slot 0) (.cons (.idx (.slot 2) (.cst (.int 0))) .nil)))) (.cons (.asn (.nm 4) (.bin .add (.slot 4) (.idx (.slot 1) (.met .index (.slot 3) (.cons (.slot 5) .nil)))))
 .nil))
 (.cons (.ret (.slot 4))
 .nil)))
def B_plain_cost (j_line_of : Nat) (g_line_of : List D → R D) : Ss := (.cons (.ife (.cmp .eq (.slot 3) (.glo "PUSHES" (.str "pushes"))) (.cons (.ret (.cst (.int 1)))
 .nil) .nil)
 (.cons (.asn (.nm 4) (.call j_line_of g_line_of (.cons (.slot 0) (.cons (.slot 1) (.cons (.slot 2) .nil)))))
 (.cons (.ret (.blt .len (.cons (.lc [5, 6] (.t2 (.nm 5) (.nm 6)) (.zip (.slot 4) (.sli (.slot 4) (.som (.cst (.int 1))) .non)) (.one (.cmp .ne (.slot 5) (.slot 6))) (.cst (.int 1))) .nil)))
 .nil)))
def B_steps_from (j_pushes_of : Nat) (g_pushes_of : List D → R D) (j_plain_pushed : Nat) (g_plain_pushed : List D → R D) (j_tail_behind : Nat) (g_tail_behind : List D → R D) (j_plain_cost : Nat) (g_plain_cost : List D → R D) : Ss := (.cons (.own 5 (.lst .nil))
 (.cons (.for (.nm 6) (.dat (.call j_pushes_of g_pushes_of (.cons (.slot 0) (.cons (.slot 2) .nil)))) (.cons (.asn (.t2 (.nm 7) (.nm 8)) (.call j_plain_pushed g_plain_pushed (.cons (.slot 0) (.cons (.idx (.slot 1) (.cst (.int 0))) (.cons (.slot 6) .nil)))))
 (.cons (.asn (.nm 9) (.call j_tail_behind g_tail_behind (.cons (.slot 3) (.cons (.idx (.slot 1) (.cst (.int 1))) (.cons (.idx (.slot 6) (.cst (.int 0))) (.cons (.slot 8) .nil))))))
 (.cons (.app 5 (.tup (.cons (.slot 6) (.cons (.call j_plain_cost g_plain_cost (.cons (.slot 0) (.cons (.idx (.slot 1) (.cst (.int 0))) (.cons (.slot 6) (.cons (.slot 4) .nil))))) (.cons (.tup (.cons (.slot 7) (.cons (.slot 9) .nil))) .nil)))))
 .nil))))
 (.cons (.frz 5)
 (.cons (.ret (.slot 5))
 .nil))))
def B_is_met_by (j_pipes_in : Nat) (g_pipes_in : List D → R D) : Ss := (.cons (.ife (.cmp .eq (.idx (.slot 3) (.cst (.int 0))) (.cst (.str "is"))) (.cons (.ret (.cmp .eq (.slot 1) (.idx (.slot 3) (.cst (.int 1)))))
 .nil) .nil)
 (.cons (.ife (.cmp .eq (.idx (.slot 3) (.cst (.int 0))) (.cst (.str "full"))) (.cons (.ret (.blt .all (.cons (.lc [4] (.nm 4) (.dat (.idx (.slot 1) (.met .index (.call j_pipes_in g_pipes_in (.cons (.slot 0) .nil)) (.cons (.idx (.slot 3) (.cst (.int 1))) .nil)))) .nil (.cmp .eq (.slot 4) (.idx (.slot 3) (.cst (.int 2))))) .nil)))
 .nil) .nil)
 (.cons (.ret (.cmp .eq (.slot 2) (.idx (.slot 3) (.cst (.int 2)))))
 .nil)))
def B_cheapest (j_look_task : Nat) (g_look_task : List D → R D) (j_labels : Nat) (g_labels : List D → R D) (j_is_met_by : Nat) (g_is_met_by : List D → R D) : Ss := (.cons (.exp (.call j_look_task g_look_task (.cons (.slot 0) (.cons (.slot 1) (.cons (.slot 2) (.cons (.slot 3) (.cons (.slot 4) .nil)))))))
 (.cons (.asn (.nm 5) (.call j_labels g_labels (.cons (.slot 0) (.cons (.slot 1) (.cons (.slot 2) (.cons (.slot 3) (.cons (.slot 4) .nil)))))))
 (.cons (.own 6 (.lst .nil))
 (.cons (.for (.nm 7) (.dat (.slot 5)) (.cons (.ife (.call j_is_met_by g_is_met_by (.cons (.slot 0) (.cons (.idx (.slot 7) (.cst (.int 0))) (.cons (.idx (.slot 7) (.cst (.int 1))) (.cons (.slot 3) .nil))))) (.cons (.app 6 (.tup (.cons (.idx (.idx (.slot 5) (.slot 7)) (.cst (.int 0))) (.cons (.blt .len (.cons (.idx (.idx (.slot 5) (.slot 7)) (.cst (.int 1))) .nil)) (.cons (.idx (.idx (.slot 5) (.slot 7)) (.cst (.int 1))) .nil)))))
 .nil) .nil)
 .nil))
 (.cons (.ret (.ite (.cmp .ne (.bor 6) (.lst .nil)) (.tup (.cons (.idx (.blt .min1 (.cons (.bor 6) .nil)) (.cst (.int 0))) (.cons (.idx (.blt .min1 (.cons (.bor 6) .nil)) (.cst (.int 2))) .nil))) (.cst .none)))
 .nil)))))
def B_bound (j_look_task : Nat) (g_look_task : List D → R D) (j_labels : Nat) (g_labels : List D → R D) : Ss := (.cons (.exp (.call j_look_task g_look_task (.cons (.slot 0) (.cons (.slot 1) (.cons (.slot 2) (.cons (.slot 3) (.cons (.slot 4) .nil)))))))
 (.cons (.asn (.nm 5) (.call j_labels g_labels (.cons (.slot 0) (.cons (.slot 1) (.cons (.slot 2) (.cons (.slot 3) (.cons (.slot 4) .nil)))))))
 (.cons (.ret (.blt .sorted (.cons (.lc [6] (.nm 6) (.dat (.slot 5)) .nil (.tup (.cons (.slot 6) (.cons (.idx (.idx (.slot 5) (.slot 6)) (.cst (.int 0))) .nil)))) .nil)))
 .nil)))
def B_look_slug (j_is_name : Nat) (g_is_name : List D → R D) : Ss := (.cons (.ife (.not (.call j_is_name g_is_name (.cons (.slot 0) .nil))) (.cons (.rse "NoSlug")
 .nil) .nil)
 .nil)
def B_is_met (j_look_net : Nat) (g_look_net : List D → R D) (j_look_state : Nat) (g_look_state : List D → R D) (j_look_run : Nat) (g_look_run : List D → R D) (j_look_wish : Nat) (g_look_wish : List D → R D) (j_plain_run : Nat) (g_plain_run : List D → R D) (j_tail_behind : Nat) (g_tail_behind : List D → R D) (j_is_met_by : Nat) (g_is_met_by : List D → R D) : Ss := (.cons (.exp (.call j_look_net g_look_net (.cons (.slot 0) .nil)))
 (.cons (.exp (.call j_look_state g_look_state (.cons (.slot 0) (.cons (.slot 1) .nil))))
 (.cons (.exp (.call j_look_run g_look_run (.cons (.slot 0) (.cons (.slot 2) .nil))))
 (.cons (.exp (.call j_look_wish g_look_wish (.cons (.slot 0) (.cons (.slot 3) .nil))))
 (.cons (.asn (.t2 (.nm 4) (.nm 5)) (.call j_plain_run g_plain_run (.cons (.slot 0) (.cons (.slot 1) (.cons (.slot 2) .nil)))))
 (.cons (.asn (.nm 6) (.tup .nil))
 (.cons (.for (.t2 (.nm 7) (.nm 8)) (.dat (.slot 5)) (.cons (.asn (.nm 6) (.call j_tail_behind g_tail_behind (.cons (.slot 3) (.cons (.slot 6) (.cons (.slot 7) (.cons (.slot 8) .nil))))))
 .nil))
 (.cons (.ret (.call j_is_met_by g_is_met_by (.cons (.slot 0) (.cons (.slot 4) (.cons (.slot 6) (.cons (.slot 3) .nil))))))
 .nil))))))))
def B_cost_of (j_look_net : Nat) (g_look_net : List D → R D) (j_look_state : Nat) (g_look_state : List D → R D) (j_look_run : Nat) (g_look_run : List D → R D) (j_look_cost : Nat) (g_look_cost : List D → R D) (j_plain_cost : Nat) (g_plain_cost : List D → R D) (j_plain_pushed : Nat) (g_plain_pushed : List D → R D) : Ss := (.cons (.exp (.call j_look_net g_look_net (.cons (.slot 0) .nil)))
 (.cons (.exp (.call j_look_state g_look_state (.cons (.slot 0) (.cons (.slot 1) .nil))))
 (.cons (.exp (.call j_look_run g_look_run (.cons (.slot 0) (.cons (.slot 2) .nil))))
 (.cons (.exp (.call j_look_cost g_look_cost (.cons (.slot 3) .nil)))
 (.cons (.asn (.nm 4) (.cst (.int 0)))
 (.cons (.for (.nm 5) (.dat (.slot 2)) (.cons (.asn (.nm 4) (.bin .add (.slot 4) (.call j_plain_cost g_plain_cost (.cons (.slot 0) (.cons (.slot 1) (.cons (.slot 5) (.cons (.slot 3) .nil)))))))
 (.cons (.asn (.nm 1) (.idx (.call j_plain_pushed g_plain_pushed (.cons (.slot 0) (.cons (.slot 1) (.cons (.slot 5) .nil)))) (.cst (.int 0))))
 .nil)))
 (.cons (.ret (.slot 4))
 .nil)))))))
def B_cost (j_look_net : Nat) (g_look_net : List D → R D) (j_look_state : Nat) (g_look_state : List D → R D) (j_look_push : Nat) (g_look_push : List D → R D) (j_look_cost : Nat) (g_look_cost : List D → R D) (j_plain_cost : Nat) (g_plain_cost : List D → R D) : Ss := (.cons (.exp (.call j_look_net g_look_net (.cons (.slot 0) .nil)))
 (.cons (.exp (.call j_look_state g_look_state (.cons (.slot 0) (.cons (.slot 1) .nil))))
 (.cons (.exp (.call j_look_push g_look_push (.cons (.slot 0) (.cons (.slot 2) .nil))))
 (.cons (.exp (.call j_look_cost g_look_cost (.cons (.slot 3) .nil)))
 (.cons (.ret (.call j_plain_cost g_plain_cost (.cons (.slot 0) (.cons (.slot 1) (.cons (.slot 2) (.cons (.slot 3) .nil))))))
 .nil)))))
def B__law_next (j__law_gone : Nat) (g__law_gone : List D → R D) : Ss := (.cons (.asn (.t2 (.nm 4) (.nm 5)) (.call j__law_gone g__law_gone (.cons (.slot 0) (.cons (.idx (.slot 1) (.cst (.int 0))) (.cons (.idx (.slot 2) (.cst (.int 0))) (.cons (.idx (.slot 2) (.cst (.int 1))) .nil))))))
 (.cons (.asn (.nm 6) (.idx (.slot 1) (.cst (.int 1))))
 (.cons (.ife (.and (.cmp .eq (.idx (.slot 3) (.cst (.int 0))) (.cst (.str "out"))) (.cmp .eq (.idx (.slot 3) (.cst (.int 1))) (.idx (.slot 2) (.cst (.int 0))))) (.cons (.asn (.nm 6) (.sli (.bin .add (.slot 6) (.tup (.cons (.slot 5) .nil))) (.som (.bin .sub (.cst (.int 0)) (.blt .len (.cons (.idx (.slot 3) (.cst (.int 2))) .nil)))) .non))
 .nil) .nil)
 (.cons (.ret (.tup (.cons (.slot 4) (.cons (.slot 6) .nil))))
 .nil))))
def B_is_knot (j_is_state_of : Nat) (g_is_state_of : List D → R D) (j_is_name : Nat) (g_is_name : List D → R D) : Ss := (.cons (.ife (.or (.not (.isi (.slot 2) .tuple)) (.or (.cmp .ne (.blt .len (.cons (.slot 2) .nil)) (.cst (.int 2))) (.not (.call j_is_state_of g_is_state_of (.cons (.slot 0) (.cons (.idx (.slot 2) (.cst (.int 0))) .nil)))))) (.cons (.ret (.cst (.bool false)))
 .nil) .nil)
 (.cons (.ife (.or (.not (.isi (.idx (.slot 2) (.cst (.int 1))) .tuple)) (.not (.blt .all (.cons (.lc [3] (.nm 3) (.dat (.idx (.slot 2) (.cst (.int 1)))) .nil (.call j_is_name g_is_name (.cons (.slot 3) .nil))) .nil)))) (.cons (.ret (.cst (.bool false)))
 .nil) .nil)
 (.cons (.ret (.cmp .le (.blt .len (.cons (.idx (.slot 2) (.cst (.int 1))) .nil)) (.ite (.cmp .eq (.idx (.slot 1) (.cst (.int 0))) (.cst (.str "out"))) (.blt .len (.cons (.idx (.slot 1) (.cst (.int 2))) .nil)) (.cst (.int 0)))))
 .nil)))
def B_is_weighted (j_is_knot : Nat) (g_is_knot : List D → R D) : Ss := (.cons (.ife (.or (.not (.isi (.slot 2) .tuple)) (.or (.cmp .ne (.blt .len (.cons (.slot 2) .nil)) (.cst (.int 2))) (.not (.call j_is_knot g_is_knot (.cons (.slot 0) (.cons (.slot 1) (.cons (.idx (.slot 2) (.cst (.int 0))) .nil))))))) (.cons (.ret (.cst (.bool false)))
 .nil) .nil)
 (.cons (.ret (.and (.isi (.idx (.slot 2) (.cst (.int 1))) .int) (.not (.isi (.idx (.slot 2) (.cst (.int 1))) .bool))))
 .nil))
def B_plain_leak (j_leaked : Nat) (g_leaked : List D → R D) : Ss := (.cons (.own 5 (.lst .nil))
 (.cons (.for (.nm 6) (.dat (.slot 2)) (.cons (.asn (.t2 (.nm 1) (.nm 7)) (.call j_leaked g_leaked (.cons (.slot 0) (.cons (.slot 1) (.cons (.slot 6) (.cons (.slot 3) (.cons (.slot 4) .nil)))))))
 (.cons (.app 5 (.tup (.cons (.idx (.slot 6) (.cst (.int 0))) (.cons (.slot 7) .nil))))
 .nil)))
 (.cons (.frz 5)
 (.cons (.ret (.tup (.cons (.slot 1) (.cons (.slot 5) .nil))))
 .nil))))
def B_behind_leak (j_look_net : Nat) (g_look_net : List D → R D) (j_look_state : Nat) (g_look_state : List D → R D) (j_look_run : Nat) (g_look_run : List D → R D) (j_look_leak : Nat) (g_look_leak : List D → R D) (j_look_slug : Nat) (g_look_slug : List D → R D) (j_plain_leak : Nat) (g_plain_leak : List D → R D) : Ss := (.cons (.exp (.call j_look_net g_look_net (.cons (.slot 0) .nil)))
 (.cons (.exp (.call j_look_state g_look_state (.cons (.slot 0) (.cons (.slot 1) .nil))))
 (.cons (.exp (.call j_look_run g_look_run (.cons (.slot 0) (.cons (.slot 2) .nil))))
 (.cons (.exp (.call j_look_leak g_look_leak (.cons (.slot 0) (.cons (.slot 3) .nil))))
 (.cons (.exp (.call j_look_slug g_look_slug (.cons (.slot 4) .nil)))
 (.cons (.ret (.call j_plain_leak g_plain_leak (.cons (.slot 0) (.cons (.slot 1) (.cons (.slot 2) (.cons (.slot 3) (.cons (.slot 4) .nil)))))))
 .nil))))))
def B_is_out (j_is_name : Nat) (g_is_name : List D → R D) (j_ways_in : Nat) (g_ways_in : List D → R D) (j_is_pair : Nat) (g_is_pair : List D → R D) : Ss := (.cons (.ret (.and (.call j_is_pair g_is_pair (.cons (.slot 1) .nil)) (.and (.cmp .isin (.idx (.slot 1) (.cst (.int 0))) (.call j_ways_in g_ways_in (.cons (.slot 0) .nil))) (.call j_is_name g_is_name (.cons (.idx (.slot 1) (.cst (.int 1))) .nil)))))
 .nil)
def B_suspects (j_look_net : Nat) (g_look_net : List D → R D) (j_look_state : Nat) (g_look_state : List D → R D) (j_look_run : Nat) (g_look_run : List D → R D) (j_look_slug : Nat) (g_look_slug : List D → R D) (j_is_out : Nat) (g_is_out : List D → R D) (j_all_leaks : Nat) (g_all_leaks : List D → R D) (j_plain_leak : Nat) (g_plain_leak : List D → R D) : Ss := (.cons (.exp (.call j_look_net g_look_net (.cons (.slot 0) .nil)))
 (.cons (.exp (.call j_look_state g_look_state (.cons (.slot 0) (.cons (.slot 1) .nil))))
 (.cons (.exp (.call j_look_run g_look_run (.cons (.slot 0) (.cons (.slot 2) .nil))))
 (.cons (.exp (.call j_look_slug g_look_slug (.cons (.slot 3) .nil)))
 (.cons (.ife (.or (.not (.isi (.slot 4) .list)) (.or (.cmp .ne (.blt .len (.cons (.slot 4) .nil)) (.blt .len (.cons (.slot 2) .nil))) (.not (.blt .all (.cons (.lc [5] (.nm 5) (.dat (.slot 4)) .nil (.call j_is_out g_is_out (.cons (.slot 0) (.cons (.slot 5) .nil)))) .nil))))) (.cons (.rse "NoOuts")
 .nil) .nil)
 (.cons (.ret (.lc [6] (.nm 6) (.dat (.call j_all_leaks g_all_leaks (.cons (.slot 0) .nil))) (.one (.cmp .eq (.idx (.call j_plain_leak g_plain_leak (.cons (.slot 0) (.cons (.slot 1) (.cons (.slot 2) (.cons (.slot 6) (.cons (.slot 3) .nil)))))) (.cst (.int 1))) (.slot 4))) (.slot 6)))
 .nil))))))
def B__law_leaked (j__law_gone : Nat) (g__law_gone : List D → R D) : Ss := (.cons (.par (.cons 5 false (.lc [7] (.nm 7) (.dat (.idx (.slot 0) (.cst (.int 0)))) .nil (.idx (.slot 7) (.cst (.int 0)))) (.cons 6 true (.lst .nil) .nil)))
 (.cons (.for (.t2 (.nm 8) (.nm 9)) (.dat (.slot 2)) (.cons (.asn (.t2 (.nm 1) (.nm 10)) (.call j__law_gone g__law_gone (.cons (.slot 0) (.cons (.slot 1) (.cons (.slot 8) (.cons (.slot 9) .nil))))))
 (.cons (.app 6 (.tup (.cons (.slot 8) (.cons (.slot 10) .nil))))
 (.cons (.ife (.and (.cmp .ne (.slot 3) (.tup .nil)) (.cmp .isin (.idx (.slot 3) (.cst (.int 0))) (.dget (.of false (.idx (.slot 0) (.cst (.int 1)))) (.slot 8)))) (.cons (.asn (.nm 11) (.met .index (.slot 5) (.cons (.idx (.slot 3) (.cst (.int 0))) .nil)))
 (.cons (.own 12 (.blt .list (.cons (.idx (.slot 1) (.slot 11)) .nil)))
 (.cons (.sti 12 (.idx (.slot 3) (.cst (.int 1))) (.slot 4))
 (.cons (.asn (.nm 1) (.bin .add (.bin .add (.sli (.slot 1) .non (.som (.slot 11))) (.tup (.cons (.blt .tuple (.cons (.bor 12) .nil)) .nil))) (.sli (.slot 1) (.som (.bin .add (.slot 11) (.cst (.int 1)))) .non)))
 .nil)))) .nil)
 .nil))))
 (.cons (.frz 6)
 (.cons (.ret (.tup (.cons (.slot 1) (.cons (.slot 6) .nil))))
 .nil))))
def B__law_spots : Ss := (.cons (.own 1 (.lst .nil))
 (.cons (.for (.t2 (.nm 2) (.nm 3)) (.dat (.idx (.slot 0) (.cst (.int 0)))) (.cons (.extd 1 (.lc [4] (.nm 4) (.rg1 (.slot 3)) .nil (.tup (.cons (.slot 2) (.cons (.slot 4) .nil)))))
 .nil))
 (.cons (.frz 1)
 (.cons (.ret (.slot 1))
 .nil))))
def B_origins (j_look_net : Nat) (g_look_net : List D → R D) (j_look_run : Nat) (g_look_run : List D → R D) (j_traced : Nat) (g_traced : List D → R D) : Ss := (.cons (.exp (.call j_look_net g_look_net (.cons (.slot 0) .nil)))
 (.cons (.exp (.call j_look_run g_look_run (.cons (.slot 0) (.cons (.slot 1) .nil))))
 (.cons (.ret (.idx (.call j_traced g_traced (.cons (.slot 0) (.cons (.slot 1) .nil))) (.cst (.int 1))))
 .nil)))
def B_plain_goes (j_marked : Nat) (g_marked : List D → R D) (j_plain_turned : Nat) (g_plain_turned : List D → R D) (j_places_of : Nat) (g_places_of : List D → R D) : Ss := (.cons (.asn (.nm 2) (.call j_marked g_marked (.cons (.slot 0) .nil)))
 (.cons (.for (.nm 3) (.dat (.slot 1)) (.cons (.asn (.nm 2) (.call j_plain_turned g_plain_turned (.cons (.slot 0) (.cons (.slot 2) (.cons (.tup (.cons (.slot 3) (.cons (.cst (.int 1)) .nil))) .nil)))))
 .nil))
 (.cons (.ret (.blt .sorted (.cons (.lc [4, 5] (.t2 (.nm 4) (.nm 5)) (.dat (.call j_places_of g_places_of (.cons (.slot 0) (.cons (.slot 2) .nil)))) .nil (.tup (.cons (.slot 5) (.cons (.slot 4) .nil)))) .nil)))
 .nil)))
def B_goes_to (j_look_net : Nat) (g_look_net : List D → R D) (j_look_order : Nat) (g_look_order : List D → R D) (j_plain_goes : Nat) (g_plain_goes : List D → R D) : Ss := (.cons (.exp (.call j_look_net g_look_net (.cons (.slot 0) .nil)))
 (.cons (.exp (.call j_look_order g_look_order (.cons (.slot 0) (.cons (.slot 1) .nil))))
 (.cons (.ret (.call j_plain_goes g_plain_goes (.cons (.slot 0) (.cons (.slot 1) .nil))))
 .nil)))
def B_circles (j_look_net : Nat) (g_look_net : List D → R D) (j_look_order : Nat) (g_look_order : List D → R D) (j_plain_circles : Nat) (g_plain_circles : List D → R D) : Ss := (.cons (.exp (.call j_look_net g_look_net (.cons (.slot 0) .nil)))
 (.cons (.exp (.call j_look_order g_look_order (.cons (.slot 0) (.cons (.slot 1) .nil))))
 (.cons (.ret (.call j_plain_circles g_plain_circles (.cons (.slot 0) (.cons (.slot 1) .nil))))
 .nil)))
def B_comes_round (j_look_net : Nat) (g_look_net : List D → R D) (j_look_order : Nat) (g_look_order : List D → R D) (j_plain_circles : Nat) (g_plain_circles : List D → R D) : Ss := (.cons (.exp (.call j_look_net g_look_net (.cons (.slot 0) .nil)))
 (.cons (.exp (.call j_look_order g_look_order (.cons (.slot 0) (.cons (.slot 1) .nil))))
 (.cons (.asn (.nm 2) (.cst (.int 1)))
 (.cons (.for (.nm 3) (.dat (.call j_plain_circles g_plain_circles (.cons (.slot 0) (.cons (.slot 1) .nil)))) (.cons (.asn (.nm 4) (.slot 2))
 (.cons (.whl (.cmp .ne (.bin .mod (.slot 4) (.blt .len (.cons (.slot 3) .nil))) (.cst (.int 0))) (.cons (.asn (.nm 4) (.bin .add (.slot 4) (.slot 2)))
 .nil))
 (.cons (.asn (.nm 2) (.slot 4))
 .nil))))
 (.cons (.ret (.slot 2))
 .nil)))))
def B_plain_alike (j_look_both : Nat) (g_look_both : List D → R D) (j_unlike_start : Nat) (g_unlike_start : List D → R D) (j_gone_plainly : Nat) (g_gone_plainly : List D → R D) : Ss := (.cons (.exp (.call j_look_both g_look_both (.cons (.slot 0) (.cons (.slot 1) (.cons (.slot 2) .nil)))))
 (.cons (.asn (.nm 3) (.call j_unlike_start g_unlike_start (.cons (.slot 0) (.cons (.slot 1) .nil))))
 (.cons (.ret (.cmp .eq (.call j_gone_plainly g_gone_plainly (.cons (.slot 0) (.cons (.slot 1) (.cons (.slot 3) .nil)))) (.call j_gone_plainly g_gone_plainly (.cons (.slot 0) (.cons (.slot 2) (.cons (.slot 3) .nil))))))
 .nil)))
end Fp

set_option Elab.async false
set_option linter.all false
set_option maxRecDepth 100000
set_option maxHeartbeats 1000000
/-! Typed data: lists of typed things under the terms. -/
namespace Fp
open PySem L2
section
variable {α β : Type}
/-- [e for tg in it], typed -/
theorem ev_lcM {own : List Nat} {tg : Tg} {it : It} {e : E} {env : Env} {xs : List α} {c : α → D} {g : α → D} (hi : evIt it env = .ok (xs.map c)) (hl : xs.length ≤ 16777216) (h : ∀ x ∈ xs, ∃ env', asg tg (c x) (wipeE env own) = .ok env' ∧ evE e env' = .ok (g x)) :
    evE (.lc own tg it .nil e) env = .ok (.list (xs.map g)) := by
  have key : ∀ ys : List α, (∀ x ∈ ys, ∃ env', asg tg (c x) (wipeE env own) = .ok env' ∧ evE e env' = .ok (g x)) →
      lcGo (fun x => (asg tg x (wipeE env own)).bind fun env' => (evCs .nil env').bind fun k => if k = true then (evE e env').bind fun y => .ok (some y) else .ok none) (ys.map c) = .ok (ys.map g) := by
    intro ys hy
    induction ys with
    | nil => rfl
    | cons y ys ih =>
      obtain ⟨env', h1, h2⟩ := hy y List.mem_cons_self
      rw [List.map_cons, lcGo, h1, R.bind_ok, evCs, R.bind_ok, if_pos rfl, h2, R.bind_ok]
      dsimp only
      rw [ih fun x hx => hy x (List.mem_cons_of_mem _ hx), List.map_cons]
  rw [evE, hi, R.bind_ok, key xs h, R.bind_ok, if_pos (by rw [List.length_map]; exact hl)]
/-- [e for tg in it if c], typed -/
theorem ev_lcfM {own : List Nat} {tg : Tg} {it : It} {ce e : E} {env : Env} {xs : List α} {c : α → D} {p : α → Bool} {g : α → D} (hi : evIt it env = .ok (xs.map c)) (hl : xs.length ≤ 16777216)
    (h : ∀ x ∈ xs, ∃ env', asg tg (c x) (wipeE env own) = .ok env' ∧ evE ce env' = .ok (.bool (p x)) ∧ (p x = true → evE e env' = .ok (g x))) :
    evE (.lc own tg it (.one ce) e) env = .ok (.list ((xs.filter p).map g)) := by
  have key : ∀ ys : List α, (∀ x ∈ ys, ∃ env', asg tg (c x) (wipeE env own) = .ok env' ∧ evE ce env' = .ok (.bool (p x)) ∧ (p x = true → evE e env' = .ok (g x))) →
      lcGo (fun x => (asg tg x (wipeE env own)).bind fun env' => (evCs (.one ce) env').bind fun k => if k = true then (evE e env').bind fun y => .ok (some y) else .ok none) (ys.map c) = .ok ((ys.filter p).map g) := by
    intro ys hy
    induction ys with
    | nil => rfl
    | cons y ys ih =>
      obtain ⟨env', h1, h2, h3⟩ := hy y List.mem_cons_self
      have ih := ih fun x hx => hy x (List.mem_cons_of_mem _ hx)
      rw [List.map_cons, lcGo, h1, R.bind_ok, evCs, h2, R.bind_ok, asB, R.bind_ok, List.filter_cons]
      by_cases hp : p y = true
      · rw [if_pos hp, if_pos hp, h3 hp, R.bind_ok]
        dsimp only
        rw [ih, List.map_cons]
      · rw [if_neg hp, if_neg hp]
        dsimp only
        rw [ih]
  rw [evE, hi, R.bind_ok, key xs h, R.bind_ok, if_pos (by rw [List.length_map]; exact Nat.le_trans (List.length_filter_le _ _) hl)]
theorem boolsM (p : α → Bool) (xs : List α) : boolsD (xs.map fun x => .bool (p x)) = .ok (xs.map p) := boolsD_map p xs
theorem ev_allM {own : List Nat} {tg : Tg} {it : It} {e : E} {env : Env} {xs : List α} {c : α → D} {p : α → Bool} (hi : evIt it env = .ok (xs.map c)) (hl : xs.length ≤ 16777216) (h : ∀ x ∈ xs, ∃ env', asg tg (c x) (wipeE env own) = .ok env' ∧ evE e env' = .ok (.bool (p x))) :
    evE (.blt .all (.cons (.lc own tg it .nil e) .nil)) env = .ok (.bool (xs.all p)) := by
  refine ev_blt' (evs1 (ev_lcM (g := fun x => .bool (p x)) hi hl h)) ?_
  rw [dBlt, boolsM, R.bind_ok, List.all_map]
  rfl
theorem ev_anyM {own : List Nat} {tg : Tg} {it : It} {e : E} {env : Env} {xs : List α} {c : α → D} {p : α → Bool} (hi : evIt it env = .ok (xs.map c)) (hl : xs.length ≤ 16777216) (h : ∀ x ∈ xs, ∃ env', asg tg (c x) (wipeE env own) = .ok env' ∧ evE e env' = .ok (.bool (p x))) :
    evE (.blt .any (.cons (.lc own tg it .nil e) .nil)) env = .ok (.bool (xs.any p)) := by
  refine ev_blt' (evs1 (ev_lcM (g := fun x => .bool (p x)) hi hl h)) ?_
  rw [dBlt, boolsM, R.bind_ok, List.any_map]
  rfl
/-- a loop over typed things: a relation between a typed state and the slots -/
theorem for_rel {F : D → Env → Fl} {c : α → D} {step : β → α → β} {P : β → Env → Prop} : ∀ {xs : List α} {s : β} {env : Env}, P s env → (∀ x ∈ xs, ∀ s env, P s env → ∃ env', F (c x) env = .nx env' ∧ P (step s x) env') →
    ∃ env', forGo F (xs.map c) env = .nx env' ∧ P (xs.foldl step s) env'
  | [], s, env, h, _ => ⟨env, rfl, h⟩
  | x :: xs, s, env, h, k => by
    obtain ⟨env1, e1, h1⟩ := k x List.mem_cons_self s env h
    obtain ⟨env2, e2, h2⟩ := for_rel (F := F) (c := c) (step := step) (P := P) (xs := xs) h1 fun y hy => k y (List.mem_cons_of_mem _ hy)
    refine ⟨env2, ?_, h2⟩
    rw [List.map_cons, forGo, e1]
    exact e2
theorem zipM {γ : Type} (f : α → D) (g : γ → D) : ∀ (xs : List α) (ys : List γ), zipD (xs.map f) (ys.map g) = (xs.zip ys).map fun p => .tuple [f p.1, g p.2]
  | [], _ => rfl
  | _ :: _, [] => rfl
  | x :: xs, y :: ys => by
    have ih := zipM f g xs ys
    unfold zipD at ih ⊢
    rw [List.map_cons, List.map_cons, List.zipWith_cons_cons, ih]
    rfl
theorem enumM (f : α → D) : ∀ (xs : List α) (n : Nat), enumD n (xs.map f) = (xs.zipIdx n).map fun p => .tuple [.int (p.2 : Nat), f p.1]
  | [], _ => rfl
  | x :: xs, n => by rw [List.map_cons, enumD, enumM f xs (n + 1)]; rfl
end
/-! ### more of terms, statements -/
theorem ev_dget {env : Env} {d : DE} {k : E} {t : Bool} {ps : List (D × D)} {y v : D} (h : evD d env = .ok (t, ps)) (h2 : evE k env = .ok y) (hk : okK t y = true) (h3 : dFind ps y = some v) : evE (.dget d k) env = .ok v := by
  rw [evE, h, R.bind_ok, h2, R.bind_ok, dGet, if_pos hk, h3]; rfl
theorem ev_met {env : Env} {m : Met} {a e : E} {xs : List D} {y v : D} (h : evE a env = .ok (.list xs)) (h2 : evE e env = .ok y) (h3 : dMet m (.list xs) [y] = .ok v) : evE (.met m a (.cons e .nil)) env = .ok v := by
  rw [evE, h, R.bind_ok, sqM, R.bind_ok, evs1 h2, R.bind_ok, h3]
theorem exp_ok {env : Env} {e : E} {x : D} {r : Ss} (h : evE e env = .ok x) : exSs (.cons (.exp e) r) env = exSs r env := by rw [exSs, exS, h]; rfl
theorem exp_ex {env : Env} {e : E} {c : Str} {r : Ss} (h : evE e env = .ex c) : exSs (.cons (.exp e) r) env = .ex c env := by rw [exSs, exS, h]; rfl
theorem ret_out {env : Env} {e : E} {r : Ss} {x : R D} (h : evE e env = x) : (exSs (.cons (.ret e) r) env).out = x := by rw [ret1, h]
theorem ret_rt {env : Env} {e : E} {r : Ss} {x : D} (h : evE e env = .ok x) : exSs (.cons (.ret e) r) env = .rt x := ex_ret h
theorem ifx_t {env : Env} {c : E} {a b r : Ss} (h : evE c env = .ok (.bool true)) : exSs (.cons (.ife c a b) r) env = (exSs a env).andThen (exSs r) := by rw [ex_ife h, if_pos rfl]
theorem ifx_f {env : Env} {c : E} {a b r : Ss} (h : evE c env = .ok (.bool false)) : exSs (.cons (.ife c a b) r) env = (exSs b env).andThen (exSs r) := by rw [ex_ife h, if_neg (by simp)]
theorem if_skip {env : Env} {c : E} {a r : Ss} (h : evE c env = .ok (.bool false)) : exSs (.cons (.ife c a .nil) r) env = exSs r env := by rw [ifx_f h, ex_nil]; rfl
theorem ex_sti {env : Env} {i : Nat} {ix e : E} {r : Ss} {xs : List D} {d : D} {n : Nat} (hi : env[i]? = some (.own (.list xs))) (h : evE e env = .ok d) (h2 : evE ix env = .ok (.int (n : Nat))) (hn : n < xs.length) :
    exSs (.cons (.sti i ix e) r) env = exSs r (env.set i (.own (.list (xs.set n d)))) := by
  have hix : ixN xs.length (n : Int) = some n := by
    unfold ixN
    rw [if_pos (by omega), if_pos (by omega)]
    rfl
  rw [exSs, exS, h, ofR, withO, hi]
  try dsimp only
  rw [h2, ofR]
  try dsimp only
  rw [hix]
  rfl
theorem ex_dnew {env : Env} {i : Nat} {d : DE} {t : Bool} {ps : List (D × D)} {r : Ss} (h : evD d env = .ok (t, ps)) (hi : i < env.length) : exSs (.cons (.dnew i d) r) env = exSs r (env.set i (.own (dV t ps))) := by
  rw [exSs, exS, h]
  show (ofE (setS i _ env)).andThen _ = _
  rw [setS, if_pos hi]
  rfl
theorem withD_N {env : Env} {i : Nat} {t : Bool} {ps : List (D × D)} {f : Bool → List (D × D) → Fl} (h : env[i]? = some (.own (dV t ps))) : withD env i f = f t ps := by
  unfold withD
  rw [h]
  cases t <;> rfl
theorem evD_slot {env : Env} {i : Nat} {t : Bool} {ps : List (D × D)} (h : env[i]? = some (.own (dV t ps))) : evD (.slot i) env = .ok (t, ps) := by
  rw [evD, h]
  cases t <;> rfl
theorem ex_dst {env : Env} {i : Nat} {k e : E} {t : Bool} {ps : List (D × D)} {r : Ss} {y v : D} (hi : env[i]? = some (.own (dV t ps))) (h : evE e env = .ok v) (h2 : evE k env = .ok y) (hk : okK t y = true) (hl : ps.length < 16777216) :
    exSs (.cons (.dst i k e) r) env = exSs r (env.set i (.own (dV t (dStore ps y v)))) := by
  rw [exSs, exS, h, ofR, withD_N hi, h2, ofR, dPut, if_pos ⟨hk, hl⟩]
  rfl
theorem ex_dpar {env : Env} {i j : Nat} {k e f : E} {t : Bool} {ps : List (D × D)} {r : Ss} {y v w : D} (hi : env[i]? = some (.own (dV t ps))) (hj : j < env.length) (h : evE e env = .ok v) (h1 : evE f env = .ok w) (h2 : evE k env = .ok y) (hk : okK t y = true) (hl : ps.length < 16777216) :
    exSs (.cons (.dpar i k e j f) r) env = exSs r ((env.set i (.own (dV t (dStore ps y v)))).set j (.val w)) := by
  rw [exSs, exS, h, ofR, h1, ofR, withD_N hi, h2, ofR, dPut, if_pos ⟨hk, hl⟩]
  show (ofE (setS j _ _)).andThen _ = _
  rw [setS, if_pos (by rw [List.length_set]; exact hj)]
  rfl
theorem slotOf_f (d : D) : slotOf false d = .ok (.val d) := rfl
theorem slotOf_t (ds : List D) : slotOf true (.list ds) = .ok (.own (.list ds)) := rfl
theorem ex_par3 {env : Env} {i j l : Nat} {a b c : E} {x z : D} {ys : List D} {r : Ss} (h1 : evE a env = .ok x) (h2 : evE b env = .ok (.list ys)) (h3 : evE c env = .ok z) (hi : i < env.length) (hj : j < env.length) (hl : l < env.length) :
    exSs (.cons (.par (.cons i false a (.cons j true b (.cons l false c .nil)))) r) env = exSs r (((env.set i (.val x)).set j (.own (.list ys))).set l (.val z)) := by
  rw [exSs, exS, evPs, h1, R.bind_ok, slotOf_f, R.bind_ok, evPs, h2, R.bind_ok, slotOf_t, R.bind_ok, evPs, h3, R.bind_ok, slotOf_f, R.bind_ok, evPs, R.bind_ok, R.bind_ok, R.bind_ok]
  show (ofE (setAll _ env)).andThen _ = _
  rw [setAll, setS, if_pos hi, R.bind_ok, setAll, setS, if_pos (by rw [List.length_set]; exact hj), R.bind_ok, setAll, setS, if_pos (by rw [List.length_set, List.length_set]; exact hl), R.bind_ok, setAll]
  rfl
theorem dAdd_T {xs ys : List D} (h : xs.length + ys.length ≤ 16777216) : dAdd (.tuple xs) (.tuple ys) = .ok (.tuple (xs ++ ys)) := by rw [dAdd, if_pos h]
theorem dAdd_L {xs ys : List D} (h : xs.length + ys.length ≤ 16777216) : dAdd (.list xs) (.list ys) = .ok (.list (xs ++ ys)) := by rw [dAdd, if_pos h]
theorem ev_addT {env : Env} {a b : E} {xs ys : List D} (h1 : evE a env = .ok (.tuple xs)) (h2 : evE b env = .ok (.tuple ys)) (h : xs.length + ys.length ≤ 16777216) : evE (.bin .add a b) env = .ok (.tuple (xs ++ ys)) := ev_bin' h1 h2 (dAdd_T h)
theorem ev_addL {env : Env} {a b : E} {xs ys : List D} (h1 : evE a env = .ok (.list xs)) (h2 : evE b env = .ok (.list ys)) (h : xs.length + ys.length ≤ 16777216) : evE (.bin .add a b) env = .ok (.list (xs ++ ys)) := ev_bin' h1 h2 (dAdd_L h)
/-! ### slices -/
theorem cut_neg1 (xs : List D) : cutD xs none (some (-1)) = xs.dropLast := by
  have e : HT.sIx xs.length xs.length (some (-1)) = xs.length - 1 := by
    unfold HT.sIx
    simp
    omega
  have e0 : HT.sIx xs.length 0 none = 0 := HT.sIx_none ..
  unfold cutD
  rw [e, e0, List.drop_zero, Nat.sub_zero, List.dropLast_eq_take]
theorem cut_1 (xs : List D) : cutD xs (some 1) none = xs.tail := by
  cases xs with
  | nil => rfl
  | cons x zs =>
    have h1 : HT.sIx (x :: zs).length 0 (some 1) = 1 := by
      have := HT.sIx_nat (x :: zs).length 0 1
      rw [show ((1 : Nat) : Int) = 1 from rfl] at this
      rw [this]; simp
    unfold cutD
    rw [h1]
    simp [HT.sIx]
theorem atI_last {α : Type} {xs : List α} {x : α} (h : xs.getLast? = some x) : atI xs (-1) = some x := by
  have hne : xs ≠ [] := fun e => by rw [e] at h; cases h
  have hl : 0 < xs.length := List.length_pos_iff.mpr hne
  unfold atI ixN
  rw [if_neg (by omega), if_pos (by omega)]
  have e : ((-1 : Int) + (xs.length : Int)).toNat = xs.length - 1 := by omega
  show xs[((-1 : Int) + (xs.length : Int)).toNat]? = _
  rw [e, ← List.getLast?_eq_getElem?]
  exact h
theorem idxT_last {xs : List D} {x : D} (h : xs.getLast? = some x) : dIdx (.tuple xs) (.int (-1)) = .ok x := by rw [dIdx, atI_last h]; rfl
theorem idxL_last {xs : List D} {x : D} (h : xs.getLast? = some x) : dIdx (.list xs) (.int (-1)) = .ok x := by rw [dIdx, atI_last h]; rfl
theorem idxT_nat {xs : List D} {x : D} {n : Nat} (h : xs[n]? = some x) : dIdx (.tuple xs) (.int (n : Nat)) = .ok x := by rw [dIdx, atI_nat h]; rfl
theorem idxL_nat {xs : List D} {x : D} {n : Nat} (h : xs[n]? = some x) : dIdx (.list xs) (.int (n : Nat)) = .ok x := by rw [dIdx, atI_nat h]; rfl
theorem idxT_z {xs : List D} {x : D} (h : xs[0]? = some x) : dIdx (.tuple xs) (.int 0) = .ok x := idxT_nat (n := 0) h
theorem idxL_z {xs : List D} {x : D} (h : xs[0]? = some x) : dIdx (.list xs) (.int 0) = .ok x := idxL_nat (n := 0) h
theorem ev_neg1 {env : Env} : evE (.neg (.cst (.int 1))) env = .ok (.int (-1)) := ev_neg ev_cst
/-! ### names -/
theorem eqv_str (x y : Str) : PyData.eqv (.str x) (.str y) = decide (x = y) := by
  show (x == y) = _
  exact (Bool.beq_eq_decide_eq x y)
theorem fine_strs (ns : List Str) : fine (.list (ns.map PyData.str)) = true ∧ fine (.tuple (ns.map PyData.str)) = true := by
  have : PyData.plainAll (ns.map PyData.str) = true ∧ PyData.depthAll (ns.map PyData.str) ≤ 1 := by
    induction ns with
    | nil => exact ⟨rfl, Nat.zero_le _⟩
    | cons x xs ih =>
      simp only [List.map_cons, PyData.plainAll, PyData.depthAll, PyData.plain, PyData.depth, Bool.true_and]
      exact ⟨ih.1, by omega⟩
  have h2 := this.2
  constructor
  · unfold fine
    rw [PyData.plain, this.1, PyData.depth, decide_eq_true (by omega)]
    rfl
  · unfold fine
    rw [PyData.plain, this.1, PyData.depth, decide_eq_true (by omega)]
    rfl
theorem any_strs (ns : List Str) (x : Str) : ((ns.map PyData.str).any fun z => PyData.eqv z (.str x)) = decide (x ∈ ns) := by
  induction ns with
  | nil => simp
  | cons n ns ih =>
    rw [List.map_cons, List.any_cons, ih, eqv_str]
    by_cases h : n = x
    · subst h; simp
    · have h' : ¬ x = n := fun e => h e.symm
      simp [h, h']
theorem in_strsL (ns : List Str) (x : Str) : dIn (.str x) (.list (ns.map PyData.str)) = .ok (decide (x ∈ ns)) := by
  rw [dIn, if_pos (by rw [(fine_strs ns).1]; rfl), any_strs]
theorem in_strsT (ns : List Str) (x : Str) : dIn (.str x) (.tuple (ns.map PyData.str)) = .ok (decide (x ∈ ns)) := by
  rw [dIn, if_pos (by rw [(fine_strs ns).2]; rfl), any_strs]
theorem place_strs {ns : List Str} {x : Str} (h : x ∈ ns) : PySem.SeqAt.dataPlace (ns.map PyData.str) (.str x) = some (ns.idxOf x) := by
  unfold PySem.SeqAt.dataPlace
  induction ns with
  | nil => cases h
  | cons n ns ih =>
    rw [List.map_cons, List.findIdx?_cons, eqv_str, List.idxOf_cons]
    by_cases e : n = x
    · subst e; simp
    · have e' : (n == x) = false := by simpa using e
      rw [decide_eq_false e, e']
      have hx : x ∈ ns := by
        rcases List.mem_cons.mp h with h | h
        · exact absurd h.symm e
        · exact h
      simp only [Bool.false_eq_true, if_false, cond_false]
      rw [ih hx]
      rfl
theorem idx_strs {ns : List Str} {x : Str} (h : x ∈ ns) : dMet .index (.list (ns.map PyData.str)) [.str x] = .ok (.int (ns.idxOf x : Nat)) := by
  have e : (fine (.list (ns.map PyData.str)) && fine (.str x)) = true := by rw [(fine_strs ns).1]; rfl
  show (if (fine (.list (ns.map PyData.str)) && fine (.str x)) = true then _ else _) = _
  rw [if_pos e, place_strs h]
  rfl
theorem map_at {α : Type} {ns : List Str} {x : Str} (f : Str → α) (h : x ∈ ns) : (ns.map f)[ns.idxOf x]? = some (f x) := by
  have hl := List.idxOf_lt_length_iff.mpr h
  rw [List.getElem?_map, List.getElem?_eq_getElem hl, List.getElem_idxOf hl]
  rfl
theorem map_set {α : Type} (f : Str → α) (v : α) : ∀ {ns : List Str} {x : Str}, x ∈ ns → ns.Nodup → (ns.map f).set (ns.idxOf x) v = ns.map fun n => if n = x then v else f n
  | n :: ns, x, h, hd => by
    rw [List.idxOf_cons]
    have hd' := List.nodup_cons.mp hd
    by_cases e : n = x
    · subst e
      simp only [beq_self_eq_true, cond_true, List.map_cons, List.set_cons_zero, if_true]
      congr 1
      refine List.map_congr_left fun m hm => ?_
      rw [if_neg fun z => hd'.1 (by rw [← z]; exact hm)]
    · have e' : (n == x) = false := by simpa using e
      have hx : x ∈ ns := by
        rcases List.mem_cons.mp h with h | h
        · exact absurd h.symm e
        · exact h
      rw [e']
      simp only [cond_false, List.map_cons, List.set_cons_succ]
      rw [map_set f v hx hd'.2, if_neg e]
end Fp

set_option Elab.async false
set_option linter.all false
set_option maxRecDepth 100000
set_option maxHeartbeats 1000000
/-! Nets and pushes, typed. -/
namespace Fp
open PySem L2
structure Net where
  P : List (Str × Nat)
  W : List (Str × List Str)
def eP (p : Str × Nat) : D := .tuple [.str p.1, .int p.2]
def eR (r : List Str) : D := .tuple (r.map .str)
def eW (w : Str × List Str) : D := .tuple [.str w.1, eR w.2]
def eN (N : Net) : D := .tuple [.tuple (N.P.map eP), .tuple (N.W.map eW)]
def Net.ns (N : Net) : List Str := N.P.map (·.1)
def Net.ws (N : Net) : List Str := N.W.map (·.1)
/-- the rows of a state, by the pipes' names -/
def eF (N : Net) (f : Str → List D) : D := .tuple (N.ns.map fun n => .tuple (f n))
/-- a net as the looks want it -/
structure NOk (N : Net) : Prop where
  is : isNet (eN N) = true
  nd : N.ns.Nodup
  wd : N.ws.Nodup
  nm : ∀ n ∈ N.ns, isName (.str n) = true
  wm : ∀ n ∈ N.ws, isName (.str n) = true
  p6 : N.P.length ≤ 6
  w8 : N.W.length ≤ 8
  p1 : 1 ≤ N.P.length
  w1 : 1 ≤ N.W.length
  ln : ∀ p ∈ N.P, 1 ≤ p.2 ∧ p.2 ≤ 4
  rw : ∀ w ∈ N.W, w.2 ≠ [] ∧ w.2.length ≤ 4 ∧ w.2.Nodup ∧ ∀ x ∈ w.2, x ∈ N.ns
theorem len_ns (N : Net) : N.ns.length = N.P.length := List.length_map ..
theorem len_ws (N : Net) : N.ws.length = N.W.length := List.length_map ..
/-- rows that are filled, not too long -/
structure FOk (N : Net) (f : Str → List D) : Prop where
  ne : ∀ n ∈ N.ns, f n ≠ []
  le : ∀ n ∈ N.ns, (f n).length ≤ 1000
def lastD (xs : List D) : D := xs.getLast?.getD .none
def headD (xs : List D) : D := xs.head?.getD .none
theorem lastD_ok {xs : List D} (h : xs ≠ []) : xs.getLast? = some (lastD xs) := by
  unfold lastD
  rw [List.getLast?_eq_some_getLast h]
  rfl
theorem headD_ok {xs : List D} (h : xs ≠ []) : xs[0]? = some (headD xs) := by
  cases xs with
  | nil => exact absurd rfl h
  | cons x r => rfl
abbrev PS := (Str → List D) × D
def stepF (s : PS) (n : Str) : PS := (fun m => if m = n then s.2 :: (s.1 n).dropLast else s.1 m, lastD (s.1 n))
def stepB (s : PS) (n : Str) : PS := (fun m => if m = n then (s.1 n).tail ++ [s.2] else s.1 m, headD (s.1 n))
def pushF (f : Str → List D) (row : List Str) (x : D) : PS := row.foldl stepF (f, x)
def drawF (f : Str → List D) (row : List Str) (x : D) : PS := row.reverse.foldl stepB (f, x)
theorem stepF_ok {N : Net} {s : PS} {n : Str} (h : FOk N s.1) : FOk N (stepF s n).1 := by
  refine ⟨fun m hm => ?_, fun m hm => ?_⟩
  · show (if m = n then s.2 :: (s.1 n).dropLast else s.1 m) ≠ []
    split
    · simp
    · exact h.ne m hm
  · show (if m = n then s.2 :: (s.1 n).dropLast else s.1 m).length ≤ 1000
    split
    · rename_i e
      subst e
      have := h.le m hm
      have := List.length_pos_iff.mpr (h.ne m hm)
      rw [List.length_cons, List.length_dropLast]
      omega
    · exact h.le m hm
theorem stepB_ok {N : Net} {s : PS} {n : Str} (h : FOk N s.1) : FOk N (stepB s n).1 := by
  refine ⟨fun m hm => ?_, fun m hm => ?_⟩
  · show (if m = n then (s.1 n).tail ++ [s.2] else s.1 m) ≠ []
    split
    · simp
    · exact h.ne m hm
  · show (if m = n then (s.1 n).tail ++ [s.2] else s.1 m).length ≤ 1000
    split
    · rename_i e
      subst e
      have := h.le m hm
      have := List.length_pos_iff.mpr (h.ne m hm)
      rw [List.length_append, List.length_tail, List.length_singleton]
      omega
    · exact h.le m hm
/-! ### names of pipes, of ways; a way's row -/
theorem eN_0 (N : Net) : dIdx (eN N) (.int 0) = .ok (.tuple (N.P.map eP)) := dIdxT0
theorem eN_1 (N : Net) : dIdx (eN N) (.int 1) = .ok (.tuple (N.W.map eW)) := dIdxT1
theorem ev_n0 {env : Env} {e : E} {N : Net} (h : evE e env = .ok (eN N)) : evE (.idx e (.cst (.int 0))) env = .ok (.tuple (N.P.map eP)) := ev_idx' h ev_cst (eN_0 N)
theorem ev_n1 {env : Env} {e : E} {N : Net} (h : evE e env = .ok (eN N)) : evE (.idx e (.cst (.int 1))) env = .ok (.tuple (N.W.map eW)) := ev_idx' h ev_cst (eN_1 N)
theorem pipes_in_ok {N : Net} (h : NOk N) : runF 1 2 B_pipes_in [eN N] = .ok (.list (N.ns.map .str)) := by
  rw [run1 (np := 1) rfl]
  unfold B_pipes_in
  refine ret_out ?_
  rw [ev_lcM (xs := N.P) (c := eP) (g := fun p => .str p.1) (it_dat (ev_n0 (ev_slot rfl)) rfl) (by have := h.p6; omega) fun p hp => ⟨_, rfl, ev_idx' (ev_slot rfl) ev_cst dIdxT0⟩]
  unfold Net.ns
  rw [List.map_map]
  rfl
theorem ways_in_ok {N : Net} (h : NOk N) : runF 1 2 B_ways_in [eN N] = .ok (.list (N.ws.map .str)) := by
  rw [run1 (np := 1) rfl]
  unfold B_ways_in
  refine ret_out ?_
  rw [ev_lcM (xs := N.W) (c := eW) (g := fun p => .str p.1) (it_dat (ev_n1 (ev_slot rfl)) rfl) (by have := h.w8; omega) fun p hp => ⟨_, rfl, ev_idx' (ev_slot rfl) ev_cst dIdxT0⟩]
  unfold Net.ws
  rw [List.map_map]
  rfl
theorem way_at {N : Net} (h : NOk N) {w : Str × List Str} (hw : w ∈ N.W) : (N.W.map eW)[N.ws.idxOf w.1]? = some (eW w) := by
  have hm : w.1 ∈ N.ws := List.mem_map.mpr ⟨w, hw, rfl⟩
  have hl : N.ws.idxOf w.1 < N.W.length := by rw [← len_ws]; exact List.idxOf_lt_length_iff.mpr hm
  rw [List.getElem?_map, List.getElem?_eq_getElem hl]
  obtain ⟨j, hj, e⟩ := List.mem_iff_getElem.mp hw
  have e2 : N.ws.idxOf w.1 = j := by
    have hj' : j < N.ws.length := by rw [len_ws]; exact hj
    have : N.ws[j] = w.1 := by
      show (N.W.map (·.1))[j]'(by simpa [Net.ws] using hj') = _
      rw [List.getElem_map, e]
    rw [← this]
    exact List.Nodup.idxOf_getElem h.wd j hj'
  simp only [e2, e]
  rfl
theorem row_of_ok {N : Net} (h : NOk N) {gw : List D → R D} (j : Nat) (hg : gw [eN N] = .ok (.list (N.ws.map .str))) {w : Str × List Str} (hw : w ∈ N.W) : runF 2 2 (B_row_of j gw) [eN N, .str w.1] = .ok (eR w.2) := by
  rw [run1 (np := 2) rfl]
  unfold B_row_of
  have hm : w.1 ∈ N.ws := List.mem_map.mpr ⟨w, hw, rfl⟩
  exact ret_out (ev_idx' (ev_idx' (ev_n1 (ev_slot rfl)) (ev_met (ev_call' (evs1 (ev_slot rfl)) hg) (ev_slot rfl) (idx_strs hm)) (idxT_nat (way_at h hw))) ev_cst dIdxT1)
/-! ### pushes -/
theorem set_rows {N : Net} (h : NOk N) {n : Str} (hn : n ∈ N.ns) (f : Str → List D) (v : List D) : (N.ns.map fun m => PyData.tuple (f m)).set (N.ns.idxOf n) (.tuple v) = N.ns.map fun m => .tuple (if m = n then v else f m) := by
  rw [map_set (fun m => PyData.tuple (f m)) (.tuple v) hn h.nd]
  refine List.map_congr_left fun m _ => ?_
  split <;> rfl
theorem plain_pushed_ok {N : Net} (h : NOk N) {gp gr : List D → R D} (j1 j2 : Nat) (hp : gp [eN N] = .ok (.list (N.ns.map .str))) {w : Str × List Str} (hw : w ∈ N.W) (hr : gr [eN N, .str w.1] = .ok (eR w.2)) {f : Str → List D} (hf : FOk N f) (x : D) :
    runF 3 9 (B_plain_pushed j1 gp j2 gr) [eN N, eF N f, .tuple [.str w.1, x]] = .ok (.tuple [eF N (pushF f w.2 x).1, (pushF f w.2 x).2]) := by
  rw [run1 (np := 3) rfl]
  unfold B_plain_pushed
  rw [ex_par3 (x := .list (N.ns.map .str)) (ys := N.ns.map fun n => .tuple (f n)) (z := x) (ev_call' (evs1 (ev_slot rfl)) hp) (ev_blt' (evs1 (ev_slot rfl)) rfl) (ev_idx' (ev_slot rfl) ev_cst dIdxT1) (by simp) (by simp) (by simp)]
  obtain ⟨env', e1, P⟩ := for_rel (F := forF (.nm 6) (.cons (.asn (.nm 7) (.met .index (.slot 3) (.cons (.slot 6) .nil)))
      (.cons (.asn (.nm 8) (.idx (.idx (.bor 4) (.slot 7)) (.neg (.cst (.int 1)))))
      (.cons (.sti 4 (.slot 7) (.bin .add (.tup (.cons (.slot 5) .nil)) (.sli (.idx (.bor 4) (.slot 7)) .non (.som (.neg (.cst (.int 1)))))))
      (.cons (.asn (.nm 5) (.slot 8)) .nil))))) (c := PyData.str) (step := stepF) (P := fun s env => (∃ s6 s7 s8, env = [.val (eN N), .val (eF N f), .val (.tuple [.str w.1, x]), .val (.list (N.ns.map .str)), .own (.list (N.ns.map fun n => .tuple (s.1 n))), .val s.2, s6, s7, s8]) ∧ FOk N s.1)
      (xs := w.2) (s := (f, x)) ⟨⟨_, _, _, rfl⟩, hf⟩ fun n hn s env ⟨⟨s6, s7, s8, e⟩, ok⟩ => by
    subst e
    have hns : n ∈ N.ns := (h.rw w hw).2.2.2 n hn
    have hlt : N.ns.idxOf n < (N.ns.map fun m => PyData.tuple (s.1 m)).length := by rw [List.length_map]; exact List.idxOf_lt_length_iff.mpr hns
    have hat := map_at (fun m => PyData.tuple (s.1 m)) hns
    have hla := lastD_ok (ok.ne n hns)
    have hle := ok.le n hns
    refine ⟨_, ?_, ⟨.val (.str n), .val (.int (N.ns.idxOf n : Nat)), .val (lastD (s.1 n)), rfl⟩, stepF_ok ok⟩
    show exSs _ [_, _, _, _, _, _, .val (.str n), _, _] = _
    rw [ex_asn (ev_met (ev_slot rfl) (ev_slot rfl) (idx_strs hns)) (by simp)]
    rw [ex_asn (x := lastD (s.1 n)) (ev_idx' (ev_idx' (ev_boro rfl) (ev_slot rfl) (idxL_nat hat)) ev_neg1 (idxT_last hla)) (by simp)]
    rw [ex_sti (d := .tuple (s.2 :: (s.1 n).dropLast)) rfl (ev_addT (xs := [s.2]) (ys := (s.1 n).dropLast) (ev_tup (evs1 (ev_slot rfl)) (by simp)) (ev_sli' (ev_idx' (ev_boro rfl) (ev_slot rfl) (idxL_nat hat)) evo_non (evo_som ev_neg1) (by rw [dSli, cut_neg1])) (by simp; omega)) (ev_slot rfl) hlt]
    rw [ex_asn (ev_slot rfl) (by simp), ex_nil, set_rows h hns]
    rfl
  obtain ⟨⟨s6, s7, s8, e⟩, ok⟩ := P
  refine (congrArg Fl.out (ex_for (it_dat (ev_call' (evs_cons (ev_slot rfl) (evs1 (ev_idx' (ev_slot rfl) ev_cst dIdxT0))) hr) rfl) e1)).trans ?_
  subst e
  exact ret_out (ev_tup (evs_cons (ev_blt' (evs1 (ev_boro rfl)) rfl) (evs1 (ev_slot rfl))) (by simp))
theorem plain_drawn_ok {N : Net} (h : NOk N) {gp gr : List D → R D} (j1 j2 : Nat) (hp : gp [eN N] = .ok (.list (N.ns.map .str))) {w : Str × List Str} (hw : w ∈ N.W) (hr : gr [eN N, .str w.1] = .ok (eR w.2)) {f : Str → List D} (hf : FOk N f) (x : D) :
    runF 3 9 (B_plain_drawn j1 gp j2 gr) [eN N, eF N f, .tuple [.str w.1, x]] = .ok (.tuple [eF N (drawF f w.2 x).1, (drawF f w.2 x).2]) := by
  rw [run1 (np := 3) rfl]
  unfold B_plain_drawn
  rw [ex_par3 (x := .list (N.ns.map .str)) (ys := N.ns.map fun n => .tuple (f n)) (z := x) (ev_call' (evs1 (ev_slot rfl)) hp) (ev_blt' (evs1 (ev_slot rfl)) rfl) (ev_idx' (ev_slot rfl) ev_cst dIdxT1) (by simp) (by simp) (by simp)]
  obtain ⟨env', e1, P⟩ := for_rel (F := forF (.nm 6) (.cons (.asn (.nm 7) (.met .index (.slot 3) (.cons (.slot 6) .nil)))
      (.cons (.asn (.nm 8) (.idx (.idx (.bor 4) (.slot 7)) (.cst (.int 0))))
      (.cons (.sti 4 (.slot 7) (.bin .add (.sli (.idx (.bor 4) (.slot 7)) (.som (.cst (.int 1))) .non) (.tup (.cons (.slot 5) .nil))))
      (.cons (.asn (.nm 5) (.slot 8)) .nil))))) (c := PyData.str) (step := stepB) (P := fun s env => (∃ s6 s7 s8, env = [.val (eN N), .val (eF N f), .val (.tuple [.str w.1, x]), .val (.list (N.ns.map .str)), .own (.list (N.ns.map fun n => .tuple (s.1 n))), .val s.2, s6, s7, s8]) ∧ FOk N s.1)
      (xs := w.2.reverse) (s := (f, x)) ⟨⟨_, _, _, rfl⟩, hf⟩ fun n hn s env ⟨⟨s6, s7, s8, e⟩, ok⟩ => by
    subst e
    have hns : n ∈ N.ns := (h.rw w hw).2.2.2 n (List.mem_reverse.mp hn)
    have hlt : N.ns.idxOf n < (N.ns.map fun m => PyData.tuple (s.1 m)).length := by rw [List.length_map]; exact List.idxOf_lt_length_iff.mpr hns
    have hat := map_at (fun m => PyData.tuple (s.1 m)) hns
    have hla := headD_ok (ok.ne n hns)
    have hle := ok.le n hns
    refine ⟨_, ?_, ⟨.val (.str n), .val (.int (N.ns.idxOf n : Nat)), .val (headD (s.1 n)), rfl⟩, stepB_ok ok⟩
    show exSs _ [_, _, _, _, _, _, .val (.str n), _, _] = _
    rw [ex_asn (ev_met (ev_slot rfl) (ev_slot rfl) (idx_strs hns)) (by simp)]
    rw [ex_asn (x := headD (s.1 n)) (ev_idx' (ev_idx' (ev_boro rfl) (ev_slot rfl) (idxL_nat hat)) ev_cst (idxT_z hla)) (by simp)]
    rw [ex_sti (d := .tuple ((s.1 n).tail ++ [s.2])) rfl (ev_addT (xs := (s.1 n).tail) (ys := [s.2]) (ev_sli' (ev_idx' (ev_boro rfl) (ev_slot rfl) (idxL_nat hat)) (evo_som ev_cst) evo_non (by rw [dSli, cut_1])) (ev_tup (evs1 (ev_slot rfl)) (by simp)) (by simp; omega)) (ev_slot rfl) hlt]
    rw [ex_asn (ev_slot rfl) (by simp), ex_nil, set_rows h hns]
    rfl
  obtain ⟨⟨s6, s7, s8, e⟩, ok⟩ := P
  refine (congrArg Fl.out (ex_for (xs := w.2.reverse.map PyData.str) (it_dat (ev_rev' (ev_call' (evs_cons (ev_slot rfl) (evs1 (ev_idx' (ev_slot rfl) ev_cst dIdxT0))) hr) rfl) (by rw [itemsD, ← List.map_reverse])) e1)).trans ?_
  subst e
  exact ret_out (ev_tup (evs_cons (ev_blt' (evs1 (ev_boro rfl)) rfl) (evs1 (ev_slot rfl))) (by simp))
end Fp

set_option Elab.async false
set_option linter.all false
set_option maxRecDepth 100000
set_option maxHeartbeats 1000000
/-! The small language, reckoned by rewriting. -/
namespace Fp
open PySem L2
section
variable {env : Env} {α β : Type}
@[simp] theorem rb_ok {α β : Type} (a : α) (f : α → R β) : (R.ok a).bind f = f a := rfl
@[simp] theorem rb_ex {α β : Type} (c : Str) (f : α → R β) : (R.ex c : R α).bind f = .ex c := rfl
@[simp] theorem rb_no {α β : Type} (f : α → R β) : (R.no : R α).bind f = .no := rfl
@[simp] theorem ofR_ok (env : Env) (d : D) (f : D → Fl) : ofR env (.ok d) f = f d := rfl
@[simp] theorem ofR_ex (env : Env) (c : Str) (f : D → Fl) : ofR env (.ex c) f = .ex c env := rfl
@[simp] theorem ofE_ok (e : Env) : ofE (.ok e) = .nx e := rfl
@[simp] theorem and_nx (e : Env) (f : Env → Fl) : (Fl.nx e).andThen f = f e := rfl
@[simp] theorem and_rt (d : D) (f : Env → Fl) : (Fl.rt d).andThen f = .rt d := rfl
@[simp] theorem and_ex (c : Str) (e : Env) (f : Env → Fl) : (Fl.ex c e).andThen f = .ex c e := rfl
@[simp] theorem out_rt (d : D) : (Fl.rt d).out = .ok d := rfl
@[simp] theorem out_nx (e : Env) : (Fl.nx e).out = .ok .none := rfl
@[simp] theorem out_ex (c : Str) (e : Env) : (Fl.ex c e).out = .ex c := rfl
@[simp] theorem asB_b (b : Bool) : asB (.bool b) = .ok b := rfl
/-! terms -/
@[simp] theorem e_slot (i : Nat) : evE (.slot i) env = (match env[i]? with
    | some (.val d) => .ok d
    | _ => .no) := by rw [evE] <;> rfl
@[simp] theorem e_bor (i : Nat) : evE (.bor i) env = (match env[i]? with
    | some (.val d) => .ok d
    | some (.own (.list xs)) => .ok (.list xs)
    | _ => .no) := by rw [evE] <;> rfl
@[simp] theorem e_cst (d : D) : evE (.cst d) env = .ok d := by rw [evE]
@[simp] theorem e_glo (x : Str) (d : D) : evE (.glo x d) env = .ok d := by rw [evE]
def tupD (ds : List D) : R D := if ds.length ≤ 16777216 then .ok (.tuple ds) else .no
def lstD (ds : List D) : R D := if ds.length ≤ 16777216 then .ok (.list ds) else .no
@[simp] theorem tupD_ok {ds : List D} (h : ds.length ≤ 16777216) : tupD ds = .ok (.tuple ds) := if_pos h
@[simp] theorem lstD_ok {ds : List D} (h : ds.length ≤ 16777216) : lstD ds = .ok (.list ds) := if_pos h
@[simp] theorem e_tup (es : Es) : evE (.tup es) env = (evEs es env).bind tupD := by rw [evE] <;> rfl
@[simp] theorem e_lst (es : Es) : evE (.lst es) env = (evEs es env).bind lstD := by rw [evE] <;> rfl
@[simp] theorem e_bin (o : Bop) (a b : E) : evE (.bin o a b) env = (evE a env).bind fun x => (evE b env).bind fun y => dBin o x y := by rw [evE]
@[simp] theorem e_neg (a : E) : evE (.neg a) env = (evE a env).bind dNeg := by rw [evE]
@[simp] theorem dNeg_int (i : Int) : dNeg (.int i) = .ok (.int (-i)) := rfl
def bR (x : R Bool) : R D := x.bind fun k => .ok (.bool k)
@[simp] theorem bR_ok (b : Bool) : bR (.ok b) = .ok (.bool b) := rfl
@[simp] theorem e_cmp (o : Cop) (a b : E) : evE (.cmp o a b) env = (evE a env).bind fun x => (evE b env).bind fun y => bR (dCmp o x y) := by rw [evE] <;> rfl
@[simp] theorem e_chn (a b c : E) : evE (.chn a b c) env = (evE a env).bind fun x => (evE b env).bind fun y => (dLe x y).bind fun k =>
      if k = true then (evE c env).bind fun z => bR (dLe y z) else .ok (.bool false) := by rw [evE] <;> rfl
def notR (x : R Bool) : R Bool := x.bind fun k => .ok (!k)
@[simp] theorem notR_ok (b : Bool) : notR (.ok b) = .ok (!b) := rfl
@[simp] theorem c_eq (x y : D) : dCmp .eq x y = dEq x y := rfl
@[simp] theorem c_ne (x y : D) : dCmp .ne x y = notR (dEq x y) := rfl
@[simp] theorem c_lt (x y : D) : dCmp .lt x y = dLt x y := rfl
@[simp] theorem c_gt (x y : D) : dCmp .gt x y = dLt y x := rfl
@[simp] theorem c_le (x y : D) : dCmp .le x y = dLe x y := rfl
@[simp] theorem c_ge (x y : D) : dCmp .ge x y = dLe y x := rfl
@[simp] theorem c_in (x y : D) : dCmp .isin x y = dIn x y := rfl
@[simp] theorem c_notin (x y : D) : dCmp .notin x y = notR (dIn x y) := rfl
@[simp] theorem zLe_int (i j : Int) : dLe (.int i) (.int j) = .ok (decide (i ≤ j)) := dLe_int
@[simp] theorem zLt_int (i j : Int) : dLt (.int i) (.int j) = .ok (decide (i < j)) := dLt_int
@[simp] theorem zEq_int (i j : Int) : dEq (.int i) (.int j) = .ok (decide (i = j)) := dEq_int
def andR (a b : R D) : R D := a.bind fun x => (asB x).bind fun k => if k = true then b else .ok (.bool false)
def orR (a b : R D) : R D := a.bind fun x => (asB x).bind fun k => if k = true then .ok (.bool true) else b
@[simp] theorem andR_ok (p q : Bool) : andR (.ok (.bool p)) (.ok (.bool q)) = .ok (.bool (p && q)) := by cases p <;> rfl
@[simp] theorem andR_t (b : R D) : andR (.ok (.bool true)) b = b := rfl
@[simp] theorem andR_f (b : R D) : andR (.ok (.bool false)) b = .ok (.bool false) := rfl
@[simp] theorem orR_ok (p q : Bool) : orR (.ok (.bool p)) (.ok (.bool q)) = .ok (.bool (p || q)) := by cases p <;> rfl
@[simp] theorem orR_t (b : R D) : orR (.ok (.bool true)) b = .ok (.bool true) := rfl
@[simp] theorem orR_f (b : R D) : orR (.ok (.bool false)) b = b := rfl
@[simp] theorem e_and (a b : E) : evE (.and a b) env = andR (evE a env) (evE b env) := by rw [evE] <;> rfl
@[simp] theorem e_or (a b : E) : evE (.or a b) env = orR (evE a env) (evE b env) := by rw [evE] <;> rfl
@[simp] theorem e_not (a : E) : evE (.not a) env = (evE a env).bind fun x => (asB x).bind fun k => .ok (.bool (!k)) := by rw [evE]
@[simp] theorem e_ite (c a b : E) : evE (.ite c a b) env = (evE c env).bind fun x => (asB x).bind fun k => if k = true then evE a env else evE b env := by rw [evE]
@[simp] theorem e_idx (a i : E) : evE (.idx a i) env = (evE a env).bind fun x => (evE i env).bind fun y => dIdx x y := by rw [evE]
@[simp] theorem e_sli (a : E) (lo hi : Eo) : evE (.sli a lo hi) env = (evE a env).bind fun x => (evEo lo env).bind fun l => (evEo hi env).bind fun h => dSli x l h := by rw [evE]
@[simp] theorem e_rev (a : E) : evE (.rev a) env = (evE a env).bind dRev := by rw [evE]
@[simp] theorem dRev_L (xs : List D) : dRev (.list xs) = .ok (.list xs.reverse) := rfl
@[simp] theorem dRev_T (xs : List D) : dRev (.tuple xs) = .ok (.tuple xs.reverse) := rfl
@[simp] theorem dSli_L (xs : List D) (l h : Option Int) : dSli (.list xs) l h = .ok (.list (cutD xs l h)) := rfl
@[simp] theorem dSli_T (xs : List D) (l h : Option Int) : dSli (.tuple xs) l h = .ok (.tuple (cutD xs l h)) := rfl
@[simp] theorem e_call (j : Nat) (g : List D → R D) (es : Es) : evE (.call j g es) env = (evEs es env).bind g := by rw [evE]
@[simp] theorem e_blt (b : Blt) (es : Es) : evE (.blt b es) env = (evEs es env).bind (dBlt b) := by rw [evE]
@[simp] theorem e_isi (a : E) (t : Ty) : evE (.isi a t) env = (evE a env).bind fun x => .ok (.bool (isTy t x)) := by rw [evE]
@[simp] theorem e_isk (n : Bool) (a : E) (k : Kc) : evE (.isk n a k) env = (evE a env).bind fun x => (isK k x).bind fun b => .ok (.bool (n != b)) := by rw [evE]
@[simp] theorem isK_non (d : D) : isK .non d = .ok (noneD d) := by cases d <;> rfl
@[simp] theorem isK_tru (b : Bool) : isK .tru (.bool b) = .ok b := rfl
@[simp] theorem isK_fls (b : Bool) : isK .fls (.bool b) = .ok (!b) := rfl
@[simp] theorem e_exi (i : Nat) (c : Str) : evE (.exi i c) env = (match env[i]? with
    | some (.exc d) => .ok (.bool (isSub d c))
    | _ => .no) := by rw [evE] <;> rfl
@[simp] theorem e_met (m : Met) (a : E) (es : Es) : evE (.met m a es) env = (evE a env).bind fun x => (sqM m x).bind fun xs => (evEs es env).bind fun ys => dMet m (.list xs) ys := by rw [evE]
@[simp] theorem sqM_L (m : Met) (xs : List D) : sqM m (.list xs) = .ok xs := by cases m <;> rfl
@[simp] theorem sqM_T (xs : List D) : sqM .index (.tuple xs) = .ok xs := rfl
@[simp] theorem sq_L (xs : List D) : sq (.list xs) = .ok xs := rfl
@[simp] theorem sq_T (xs : List D) : sq (.tuple xs) = .ok xs := rfl
@[simp] theorem items_L (xs : List D) : itemsD (.list xs) = .ok xs := rfl
@[simp] theorem items_T (xs : List D) : itemsD (.tuple xs) = .ok xs := rfl
@[simp] theorem e_dget (d : DE) (k : E) : evE (.dget d k) env = (evD d env).bind fun x => (evE k env).bind fun y => dGet x.1 x.2 y := by rw [evE]
@[simp] theorem e_din (n : Bool) (k : E) (d : DE) : evE (.din n k d) env = (evE k env).bind fun y => (evD d env).bind fun x => (dHas x.1 x.2 y).bind fun b => .ok (.bool (n != b)) := by rw [evE]
@[simp] theorem e_sel (js : List Nat) (gs : List (List D → R D)) (i : E) (es : Es) : evE (.sel js gs i es) env = (evE i env).bind fun x => (idxF gs x).bind fun g => (evEs es env).bind g := by rw [evE]
@[simp] theorem e_dslot (i : Nat) : evD (.slot i) env = (match env[i]? with
    | some (.own (.dict ps)) => .ok (false, ps)
    | some (.own (.tuple [.dict ps])) => .ok (true, ps)
    | _ => .no) := by rw [evD] <;> rfl
@[simp] theorem e_demp (t : Bool) : evD (.emp t) env = .ok (t, []) := by rw [evD]
@[simp] theorem e_dof (t : Bool) (e : E) : evD (.of t e) env = (evE e env).bind fun x => (dOf t x).bind fun ps => .ok (t, ps) := by rw [evD]
@[simp] theorem e_nil : evEs .nil env = .ok [] := by rw [evEs]
@[simp] theorem e_cons (e : E) (es : Es) : evEs (.cons e es) env = (evE e env).bind fun x => (evEs es env).bind fun xs => .ok (x :: xs) := by rw [evEs]
@[simp] theorem e_non : evEo .non env = .ok none := by rw [evEo]
@[simp] theorem e_som (e : E) : evEo (.som e) env = (evE e env).bind partO := by rw [evEo]
@[simp] theorem partO_int (i : Int) : partO (.int i) = .ok (some i) := rfl
@[simp] theorem e_dat (e : E) : evIt (.dat e) env = (evE e env).bind itemsD := by rw [evIt]
@[simp] theorem e_zip (a b : E) : evIt (.zip a b) env = (evE a env).bind fun x => (evE b env).bind fun y => zipR x y := by rw [evIt]
@[simp] theorem e_zip3 (a b c : E) : evIt (.zip3 a b c) env = (evE a env).bind fun x => (evE b env).bind fun y => (evE c env).bind fun z => zipR3 x y z := by rw [evIt]
@[simp] theorem e_enu (a : E) : evIt (.enu a) env = (evE a env).bind fun x => (sq x).bind fun xs => .ok (enumD 0 xs) := by rw [evIt]
@[simp] theorem e_rg1 (a : E) : evIt (.rg1 a) env = (evE a env).bind fun x => rng (.int 0) x := by rw [evIt]
@[simp] theorem e_rg2 (a b : E) : evIt (.rg2 a b) env = (evE a env).bind fun x => (evE b env).bind fun y => rng x y := by rw [evIt]
@[simp] theorem e_cnil : evCs .nil env = .ok true := by rw [evCs]
@[simp] theorem e_cone (e : E) : evCs (.one e) env = (evE e env).bind asB := by rw [evCs]
@[simp] theorem zip_LL (xs ys : List D) : zipR (.list xs) (.list ys) = .ok (zipD xs ys) := rfl
@[simp] theorem zip_TT (xs ys : List D) : zipR (.tuple xs) (.tuple ys) = .ok (zipD xs ys) := rfl
@[simp] theorem zip_LT (xs ys : List D) : zipR (.list xs) (.tuple ys) = .ok (zipD xs ys) := rfl
@[simp] theorem zip_TL (xs ys : List D) : zipR (.tuple xs) (.list ys) = .ok (zipD xs ys) := rfl
@[simp] theorem zZip {α γ : Type} (f : α → D) (g : γ → D) (xs : List α) (ys : List γ) : zipD (xs.map f) (ys.map g) = (xs.zip ys).map fun p => .tuple [f p.1, g p.2] := zipM f g xs ys
@[simp] theorem zEnum {α : Type} (f : α → D) (xs : List α) (n : Nat) : enumD n (xs.map f) = (xs.zipIdx n).map fun p => .tuple [.int (p.2 : Nat), f p.1] := enumM f xs n
/-- a range of so many -/
def rgD (n : Nat) : List D := (List.range n).map fun (i : Nat) => PyData.int (i : Int)
@[simp] theorem rng_nat {n : Nat} (h : n < 2 ^ 62) : rng (.int 0) (.int (n : Int)) = .ok (rgD n) := by
  rw [rng, if_pos (by simp; omega), rangeD, rgD]
  simp
/-! data -/
@[simp] theorem b_lenL (xs : List D) : dBlt .len [.list xs] = .ok (.int xs.length) := rfl
@[simp] theorem b_lenT (xs : List D) : dBlt .len [.tuple xs] = .ok (.int xs.length) := rfl
@[simp] theorem b_listL (xs : List D) : dBlt .list [.list xs] = .ok (.list xs) := rfl
@[simp] theorem b_listT (xs : List D) : dBlt .list [.tuple xs] = .ok (.list xs) := rfl
@[simp] theorem b_tupL (xs : List D) : dBlt .tuple [.list xs] = .ok (.tuple xs) := rfl
@[simp] theorem b_tupT (xs : List D) : dBlt .tuple [.tuple xs] = .ok (.tuple xs) := rfl
@[simp] theorem b_all (xs : List α) (p : α → Bool) : dBlt .all [.list (xs.map fun x => .bool (p x))] = .ok (.bool (xs.all p)) := by
  rw [dBlt, boolsM, R.bind_ok, List.all_map]; rfl
@[simp] theorem b_any (xs : List α) (p : α → Bool) : dBlt .any [.list (xs.map fun x => .bool (p x))] = .ok (.bool (xs.any p)) := by
  rw [dBlt, boolsM, R.bind_ok, List.any_map]; rfl
theorem intsM (p : α → Int) : ∀ xs : List α, intsD (xs.map fun x => .int (p x)) = .ok (xs.map p)
  | [] => rfl
  | x :: xs => by rw [List.map_cons, intsD, intsM p xs]; rfl
@[simp] theorem b_sum (xs : List α) (p : α → Int) : dBlt .sum [.list (xs.map fun x => .int (p x))] = .ok (.int (xs.map p).sum) := by
  rw [dBlt, intsM, R.bind_ok]
@[simp] theorem a_int (i j : Int) : dBin .add (.int i) (.int j) = .ok (.int (i + j)) := rfl
@[simp] theorem a_sub (i j : Int) : dBin .sub (.int i) (.int j) = .ok (.int (i - j)) := rfl
@[simp] theorem a_L {xs ys : List D} (h : xs.length + ys.length ≤ 16777216) : dBin .add (.list xs) (.list ys) = .ok (.list (xs ++ ys)) := dAdd_L h
@[simp] theorem a_T {xs ys : List D} (h : xs.length + ys.length ≤ 16777216) : dBin .add (.tuple xs) (.tuple ys) = .ok (.tuple (xs ++ ys)) := dAdd_T h
@[simp] theorem zIdxT0 (x : D) (r : List D) : dIdx (.tuple (x :: r)) (.int 0) = .ok x := dIdxT0
@[simp] theorem zIdxL0 (x : D) (r : List D) : dIdx (.list (x :: r)) (.int 0) = .ok x := dIdxL0
@[simp] theorem zIdxT1 (x y : D) (r : List D) : dIdx (.tuple (x :: y :: r)) (.int 1) = .ok y := dIdxT1
@[simp] theorem zIdxL1 (x y : D) (r : List D) : dIdx (.list (x :: y :: r)) (.int 1) = .ok y := dIdxL1
@[simp] theorem zCut1 (xs : List D) : cutD xs (some 1) none = xs.tail := cut_1 xs
@[simp] theorem zCutm (xs : List D) : cutD xs none (some (-1)) = xs.dropLast := cut_neg1 xs
/-! comprehensions -/
def tGo (F : α → R (Option D)) : List α → R (List D)
  | [] => .ok []
  | x :: xs => match F x with
    | .ok (some y) => (match tGo F xs with
      | .ok ys => .ok (y :: ys)
      | _ => .no)
    | .ok none => tGo F xs
    | _ => .no
def tGo2 (F : α → R (List D)) : List α → R (List D)
  | [] => .ok []
  | x :: xs => match F x with
    | .ok ys => (match tGo2 F xs with
      | .ok zs => .ok (ys ++ zs)
      | _ => .no)
    | _ => .no
theorem lcGo_m (F : D → R (Option D)) (c : α → D) : ∀ xs : List α, lcGo F (xs.map c) = tGo (fun x => F (c x)) xs
  | [] => rfl
  | x :: xs => by rw [List.map_cons, lcGo, lcGo_m F c xs, tGo] <;> rfl
theorem lcGo2_m (F : D → R (List D)) (c : α → D) : ∀ xs : List α, lcGo2 F (xs.map c) = tGo2 (fun x => F (c x)) xs
  | [] => rfl
  | x :: xs => by rw [List.map_cons, lcGo2, lcGo2_m F c xs, tGo2] <;> rfl
/-- over each thing of the list, and that it is one -/
def tGoM (xs : List α) (F : (x : α) → x ∈ xs → R (Option D)) : R (List D) := tGo (fun x : {x // x ∈ xs} => F x.1 x.2) xs.attach
def tGoM2 (xs : List α) (F : (x : α) → x ∈ xs → R (List D)) : R (List D) := tGo2 (fun x : {x // x ∈ xs} => F x.1 x.2) xs.attach
@[simp] theorem lcGo_map' (F : D → R (Option D)) (c : α → D) (xs : List α) : lcGo F (xs.map c) = tGoM xs fun x _ => F (c x) := by
  unfold tGoM
  rw [← lcGo_m F (fun x : {x // x ∈ xs} => c x.1)]
  congr 1
  exact (by simp : xs.attach.map (fun x => c x.1) = xs.map c).symm
@[simp] theorem lcGo2_map' (F : D → R (List D)) (c : α → D) (xs : List α) : lcGo2 F (xs.map c) = tGoM2 xs fun x _ => F (c x) := by
  unfold tGoM2
  rw [← lcGo2_m F (fun x : {x // x ∈ xs} => c x.1)]
  congr 1
  exact (by simp : xs.attach.map (fun x => c x.1) = xs.map c).symm
theorem tGo_some (g : α → D) : ∀ xs : List α, tGo (fun x => .ok (some (g x))) xs = .ok (xs.map g)
  | [] => rfl
  | x :: xs => by rw [tGo, tGo_some g xs]; rfl
theorem tGo_if (p : α → Bool) (g : α → D) : ∀ xs : List α, tGo (fun x => if p x = true then .ok (some (g x)) else .ok none) xs = .ok ((xs.filter p).map g)
  | [] => rfl
  | x :: xs => by
    rw [tGo, tGo_if p g xs, List.filter_cons]
    by_cases h : p x = true
    · rw [if_pos h, if_pos h]; rfl
    · rw [if_neg h, if_neg h]
theorem tGo2_ok (g : α → List D) : ∀ xs : List α, tGo2 (fun x => .ok (g x)) xs = .ok (xs.flatMap g)
  | [] => rfl
  | x :: xs => by rw [tGo2, tGo2_ok g xs]; rfl
@[simp] theorem tGoM_some (g : α → D) (xs : List α) : tGoM xs (fun x _ => .ok (some (g x))) = .ok (xs.map g) := by
  unfold tGoM
  rw [tGo_some (fun x : {x // x ∈ xs} => g x.1)]
  congr 1
  exact (by simp : xs.attach.map (fun x => g x.1) = xs.map g)
@[simp] theorem tGoM_if (p : α → Bool) (g : α → D) (xs : List α) : tGoM xs (fun x _ => if p x = true then .ok (some (g x)) else .ok none) = .ok ((xs.filter p).map g) := by
  unfold tGoM
  rw [tGo_if (fun x : {x // x ∈ xs} => p x.1) (fun x : {x // x ∈ xs} => g x.1)]
  congr 1
  exact (by simp : (xs.attach.filter (fun x => p x.1)).map (fun x => g x.1) = (xs.filter p).map g)
@[simp] theorem tGoM_ifp (p : α → Prop) [i : DecidablePred p] (g : α → D) (xs : List α) : tGoM xs (fun x _ => if p x then .ok (some (g x)) else .ok none) = .ok ((xs.filter fun x => decide (p x)).map g) := by
  have := tGoM_if (fun x => decide (p x)) g xs
  simp only [decide_eq_true_eq] at this
  exact this
@[simp] theorem tGoM2_ok (g : α → List D) (xs : List α) : tGoM2 xs (fun x _ => .ok (g x)) = .ok (xs.flatMap g) := by
  unfold tGoM2
  rw [tGo2_ok (fun x : {x // x ∈ xs} => g x.1)]
  congr 1
  exact (by simp : xs.attach.flatMap (fun x => g x.1) = xs.flatMap g)
@[simp] theorem e_lc (own : List Nat) (tg : Tg) (it : It) (cs : Cs) (e : E) : evE (.lc own tg it cs e) env = (evIt it env).bind fun xs =>
      (lcGo (fun x => (asg tg x (wipeE env own)).bind fun env' => (evCs cs env').bind fun k => if k = true then (evE e env').bind fun y => .ok (some y) else .ok none) xs).bind lstD := by rw [evE] <;> rfl
@[simp] theorem e_lc2 (own : List Nat) (tg : Tg) (it : It) (cs : Cs) (tg2 : Tg) (it2 : It) (cs2 : Cs) (e : E) : evE (.lc2 own tg it cs tg2 it2 cs2 e) env = (evIt it env).bind fun xs =>
      (lcGo2 (fun x => (asg tg x (wipeE env own)).bind fun env' => (evCs cs env').bind fun k => if k = true then (evIt it2 env').bind fun zs =>
          lcGo (fun z => (asg tg2 z (wipeE env' (tgv tg2))).bind fun env2 => (evCs cs2 env2).bind fun k => if k = true then (evE e env2).bind fun y => .ok (some y) else .ok none) zs
        else .ok []) xs).bind lstD := by rw [evE] <;> rfl
@[simp] theorem wipe_nil : wipeE env [] = env := rfl
@[simp] theorem wipe_cons (v : Nat) (vs : List Nat) : wipeE env (v :: vs) = (wipeE env vs).set v .un := rfl
@[simp] theorem tgv_nm (i : Nat) : tgv (.nm i) = [i] := rfl
@[simp] theorem tgv_t2 (a b : Tg) : tgv (.t2 a b) = tgv a ++ tgv b := rfl
@[simp] theorem tgv_t3 (a b c : Tg) : tgv (.t3 a b c) = tgv a ++ (tgv b ++ tgv c) := rfl
@[simp] theorem asg_nm {i : Nat} {d : D} (h : i < env.length) : asg (.nm i) d env = .ok (env.set i (.val d)) := if_pos h
@[simp] theorem asg_t2 (a b : Tg) (x y : D) : asg (.t2 a b) (.tuple [x, y]) env = (asg a x env).bind fun e => asg b y e := rfl
@[simp] theorem asg_t3 (a b c : Tg) (x y z : D) : asg (.t3 a b c) (.tuple [x, y, z]) env = (asg a x env).bind fun e => (asg b y e).bind fun e => asg c z e := rfl
/-! statements -/
@[simp] theorem x_nil : exSs .nil env = .nx env := ex_nil
@[simp] theorem x_cons (s : S) (r : Ss) : exSs (.cons s r) env = (exS s env).andThen (exSs r) := by rw [exSs]
@[simp] theorem x_asn (tg : Tg) (e : E) : exS (.asn tg e) env = ofR env (evE e env) fun d => ofE (asg tg d env) := by rw [exS]
def ownS (i : Nat) (env : Env) : D → Fl
  | .list xs => ofE (setS i (.own (.list xs)) env)
  | _ => .no
@[simp] theorem ownS_L (i : Nat) (xs : List D) : ownS i env (.list xs) = ofE (setS i (.own (.list xs)) env) := rfl
@[simp] theorem x_own (i : Nat) (e : E) : exS (.own i e) env = ofR env (evE e env) (ownS i env) := by
  rw [exS] <;> rfl
@[simp] theorem setS_ok {i : Nat} {s : Slot} (h : i < env.length) : setS i s env = .ok (env.set i s) := if_pos h
@[simp] theorem x_frz (i : Nat) : exS (.frz i) env = (match env[i]? with
    | some (.own (.list xs)) => .nx (env.set i (.val (.list xs)))
    | some (.own _) => .no
    | _ => .nx env) := by rw [exS] <;> rfl
def parF (env : Env) : R (List (Nat × Slot)) → Fl
  | .ok l => ofE (setAll l env)
  | .ex c => .ex c env
  | .no => .no
@[simp] theorem parF_ok (l : List (Nat × Slot)) : parF env (.ok l) = ofE (setAll l env) := rfl
@[simp] theorem x_par (l : Ps) : exS (.par l) env = parF env (evPs l env) := by rw [exS]; cases evPs l env <;> rfl
@[simp] theorem p_nil : evPs .nil env = .ok [] := by rw [evPs]
@[simp] theorem p_cons (i : Nat) (o : Bool) (e : E) (r : Ps) : evPs (.cons i o e r) env = (evE e env).bind fun d => (slotOf o d).bind fun s => (evPs r env).bind fun l => .ok ((i, s) :: l) := by rw [evPs]
@[simp] theorem zSlot_f (d : D) : slotOf false d = .ok (.val d) := rfl
@[simp] theorem zSlot_t (ds : List D) : slotOf true (.list ds) = .ok (.own (.list ds)) := rfl
@[simp] theorem setAll_nil : setAll [] env = .ok env := rfl
@[simp] theorem setAll_cons (i : Nat) (s : Slot) (r : List (Nat × Slot)) : setAll ((i, s) :: r) env = (setS i s env).bind fun e => setAll r e := rfl
@[simp] theorem withO_eq {i : Nat} {xs : List D} {f : List D → Fl} (h : env[i]? = some (.own (.list xs))) : withO env i f = f xs := by rw [withO, h]
@[simp] theorem withD_f {i : Nat} {ps : List (D × D)} {f : Bool → List (D × D) → Fl} (h : env[i]? = some (.own (.dict ps))) : withD env i f = f false ps := by rw [withD, h]
@[simp] theorem withD_t {i : Nat} {ps : List (D × D)} {f : Bool → List (D × D) → Fl} (h : env[i]? = some (.own (.tuple [.dict ps]))) : withD env i f = f true ps := by rw [withD, h]
def stiF (i : Nat) (env : Env) (xs : List D) (d : D) : D → Fl
  | .int n => (match ixN xs.length n with
      | some j => .nx (env.set i (.own (.list (xs.set j d))))
      | none => .no)
  | _ => .no
@[simp] theorem stiF_nat {i n : Nat} {xs : List D} {d : D} (h : n < xs.length) : stiF i env xs d (.int (n : Int)) = .nx (env.set i (.own (.list (xs.set n d)))) := by
  have hix : ixN xs.length (n : Int) = some n := by
    unfold ixN
    rw [if_pos (by omega), if_pos (by omega)]
    rfl
  rw [stiF, hix]
@[simp] theorem x_sti (i : Nat) (ix e : E) : exS (.sti i ix e) env = ofR env (evE e env) fun d => withO env i fun xs => ofR env (evE ix env) (stiF i env xs d) := by
  rw [exS] <;> rfl
@[simp] theorem x_app (i : Nat) (e : E) : exS (.app i e) env = withO env i fun xs => ofR env (evE e env) fun d => ofE (if xs.length < 16777216 then setS i (.own (.list (xs ++ [d]))) env else .no) := by rw [exS]
@[simp] theorem x_extd (i : Nat) (e : E) : exS (.extd i e) env = withO env i fun xs => ofR env (evE e env) fun d => ofE ((sq d).bind fun ds => if xs.length + ds.length ≤ 16777216 then setS i (.own (.list (xs ++ ds))) env else .no) := by rw [exS]
def dnewF (i : Nat) (env : Env) : R (Bool × List (D × D)) → Fl
  | .ok (t, ps) => ofE (setS i (.own (dV t ps)) env)
  | .ex c => .ex c env
  | .no => .no
@[simp] theorem dnewF_ok (i : Nat) (t : Bool) (ps : List (D × D)) : dnewF i env (.ok (t, ps)) = ofE (setS i (.own (dV t ps)) env) := rfl
@[simp] theorem x_dnew (i : Nat) (d : DE) : exS (.dnew i d) env = dnewF i env (evD d env) := by
  rw [exS]
  cases evD d env <;> rfl
@[simp] theorem dV_f (ps : List (D × D)) : dV false ps = .dict ps := rfl
@[simp] theorem dV_t (ps : List (D × D)) : dV true ps = .tuple [.dict ps] := rfl
def dstF (i : Nat) (t : Bool) (env : Env) : R (List (D × D)) → Fl
  | .ok ps => .nx (env.set i (.own (dV t ps)))
  | _ => .no
@[simp] theorem dstF_ok (i : Nat) (t : Bool) (ps : List (D × D)) : dstF i t env (.ok ps) = .nx (env.set i (.own (dV t ps))) := rfl
@[simp] theorem x_dst (i : Nat) (k e : E) : exS (.dst i k e) env = ofR env (evE e env) fun v => withD env i fun t ps => ofR env (evE k env) fun y => dstF i t env (dPut t ps y v) := by
  rw [exS] <;> rfl
def dparF (i j : Nat) (w : D) (t : Bool) (env : Env) : R (List (D × D)) → Fl
  | .ok ps => ofE (setS j (.val w) (env.set i (.own (dV t ps))))
  | _ => .no
@[simp] theorem dparF_ok (i j : Nat) (w : D) (t : Bool) (ps : List (D × D)) : dparF i j w t env (.ok ps) = ofE (setS j (.val w) (env.set i (.own (dV t ps)))) := rfl
@[simp] theorem x_dpar (i : Nat) (k e1 : E) (j : Nat) (e2 : E) : exS (.dpar i k e1 j e2) env = ofR env (evE e1 env) fun v => ofR env (evE e2 env) fun w => withD env i fun t ps => ofR env (evE k env) fun y => dparF i j w t env (dPut t ps y v) := by
  rw [exS] <;> rfl
def ifF (x y : Fl) : D → Fl
  | .bool true => x
  | .bool false => y
  | _ => .no
@[simp] theorem ifF_b (x y : Fl) (b : Bool) : ifF x y (.bool b) = if b = true then x else y := by cases b <;> rfl
@[simp] theorem x_ife (c : E) (a b : Ss) : exS (.ife c a b) env = ofR env (evE c env) (ifF (exSs a env) (exSs b env)) := by
  rw [exS] <;> rfl
def forR (F : D → Env → Fl) (env : Env) : R (List D) → Fl
  | .ok xs => forGo F xs env
  | .ex c => .ex c env
  | .no => .no
@[simp] theorem forR_ok (F : D → Env → Fl) (xs : List D) : forR F env (.ok xs) = forGo F xs env := rfl
@[simp] theorem x_for (tg : Tg) (it : It) (b : Ss) : exS (.for tg it b) env = forR (forF tg b) env (evIt it env) := by
  rw [exS]; cases evIt it env <;> rfl
theorem forF_eq {tg : Tg} {b : Ss} {x : D} {e : Env} (h : asg tg x env = .ok e) : forF tg b x env = exSs b e := by rw [forF, h]
@[simp] theorem x_ret (e : E) : exS (.ret e) env = ofR env (evE e env) .rt := by rw [exS]
@[simp] theorem x_rse (c : Str) : exS (.rse c) env = .ex c env := by rw [exS]
@[simp] theorem x_exp (e : E) : exS (.exp e) env = ofR env (evE e env) fun _ => .nx env := by rw [exS]
@[simp] theorem x_pas : exS .pas env = .nx env := by rw [exS]
@[simp] theorem ite_andThen (b : Prop) [Decidable b] (x y : Fl) (f : Env → Fl) : (if b then x else y).andThen f = if b then x.andThen f else y.andThen f := by split <;> rfl
@[simp] theorem if_out (b : Prop) [Decidable b] (x y : Fl) : (if b then x else y).out = if b then x.out else y.out := by split <;> rfl
end
end Fp

set_option Elab.async false
set_option linter.all false
set_option maxRecDepth 100000
set_option maxHeartbeats 1000000
/-! Loops by a relation; typed nets, states; what each def of nets.py tells. -/
namespace Fp
open PySem L2
/-- a flow goes on, with this -/
def Nx (f : Fl) (Q : Env → Prop) : Prop := ∃ e, f = .nx e ∧ Q e
@[simp] theorem Nx_nx (e : Env) (Q : Env → Prop) : Nx (.nx e) Q = Q e := propext ⟨fun ⟨_, h, k⟩ => by cases h; exact k, fun h => ⟨e, rfl, h⟩⟩
section
variable {α β : Type}
theorem for_post {F : D → Env → Fl} {c : α → D} {xs : List α} {env : Env} {f : Env → Fl} {Q : Fl → Prop} (step : β → α → β) (P : β → Env → Prop) {s : β} (h0 : P s env)
    (st : ∀ x ∈ xs, ∀ s env, P s env → Nx (F (c x) env) (P (step s x))) (k : ∀ env', P (xs.foldl step s) env' → Q (f env')) : Q ((forGo F (xs.map c) env).andThen f) := by
  obtain ⟨env', e, h⟩ := for_rel (F := F) (c := c) (step := step) (P := P) (xs := xs) h0 st
  rw [e]
  exact k env' h
/-- a loop that changes nothing that counts -/
theorem for_same {F : D → Env → Fl} {c : α → D} {xs : List α} {env : Env} {f : Env → Fl} {Q : Fl → Prop} (P : Env → Prop) (h0 : P env)
    (st : ∀ x ∈ xs, ∀ env, P env → Nx (F (c x) env) P) (k : ∀ env', P env' → Q (f env')) : Q ((forGo F (xs.map c) env).andThen f) :=
  for_post (fun (u : Unit) _ => u) (fun _ e => P e) (s := ()) h0 (fun x hx _ env h => st x hx env h) (fun env' h => k env' h)
end
/-- a script -/
def Sc (d : D) : Prop := ∃ ns : List Int, ns.length ≤ 63 ∧ d = .list (ns.map .int)
/-- a net that the law drew -/
structure NDr (N : Net) : Prop extends NOk N where
  p4 : N.P.length ≤ 4
  w4 : N.W.length ≤ 4
  l3 : ∀ p ∈ N.P, p.2 ≤ 3
  r3 : ∀ w ∈ N.W, w.2.length ≤ 3
  pn : N.ns = (["p", "q", "r", "s"] : List Str).take N.P.length
  wn : N.ws = (["a", "b", "c", "d"] : List Str).take N.W.length
structure SOk (N : Net) (f : Str → List D) : Prop where
  ln : ∀ p ∈ N.P, (f p.1).length = p.2
  nm : ∀ p ∈ N.P, ∀ x ∈ f p.1, isName x = true
theorem SOk.fok {N : Net} {f : Str → List D} (h : NOk N) (k : SOk N f) : FOk N f := by
  constructor
  · intro n hn e
    obtain ⟨p, hp, rfl⟩ := List.mem_map.mp hn
    have := k.ln p hp
    have := (h.ln p hp).1
    rw [e] at *
    simp at *
    omega
  · intro n hn
    obtain ⟨p, hp, rfl⟩ := List.mem_map.mp hn
    have := k.ln p hp
    have := (h.ln p hp).2
    omega
/-! what the defs tell -/
def P_is_name (g : List D → R D) : Prop := ∀ d, sz d = true → g [d] = .ok (.bool (isName d))
def P_is_whole (g : List D → R D) : Prop := ∀ d i j, g [d, .int i, .int j] = .ok (.bool (isWhole d i j))
def P_is_rising (g : List D → R D) : Prop := ∀ xs : List D, xs.length ≤ 1000000 → names xs = true → g [.list xs] = .ok (.bool (risD xs))
def P_is_pair (g : List D → R D) : Prop := ∀ d, sz d = true → g [d] = .ok (.bool (isPair d))
def P_are_pipes (g : List D → R D) : Prop := ∀ d, sz d = true → g [d] = .ok (.bool (arePipes d))
def P_is_row (g : List D → R D) : Prop := ∀ ns : List D, fine (.list ns) = true → ∀ d, sz d = true → fine d = true → g [.list ns, d] = .ok (.bool (isRow ns d))
def P_is_net (g : List D → R D) : Prop := ∀ d, sz d = true → fine d = true → g [d] = .ok (.bool (isNet d))
def P_look_net (g : List D → R D) : Prop := ∀ d, sz d = true → fine d = true → g [d] = if isNet d = true then .ok .none else .ex "NoNet"
theorem S_is_name : P_is_name (runF 1 2 B_is_name) := is_name_ok
theorem S_is_whole : P_is_whole (runF 3 3 B_is_whole) := is_whole_ok
theorem S_is_rising : P_is_rising (runF 1 3 B_is_rising) := is_rising_ok
section
variable {g1 g2 g3 g4 g5 : List D → R D} {j1 j2 j3 j4 j5 : Nat}
theorem S_is_pair (h1 : P_is_name g1) : P_is_pair (runF 1 1 (B_is_pair j1 g1)) := is_pair_ok j1 h1
theorem S_are_pipes (h1 : P_is_pair g1) (h2 : P_is_rising g2) (h3 : P_is_whole g3) : P_are_pipes (runF 1 2 (B_are_pipes j1 g1 j2 g2 j3 g3)) := are_pipes_ok j1 j2 j3 h1 h2 h3
theorem S_is_row (h1 : P_is_name g1) : P_is_row (runF 2 4 (B_is_row j1 g1)) := is_row_ok j1 h1
theorem S_is_net (h1 : P_are_pipes g1) (h2 : P_is_row g2) (h3 : P_is_pair g3) (h4 : P_is_rising g4) : P_is_net (runF 1 6 (B_is_net j1 g1 j2 g2 j3 g3 j4 g4)) := is_net_ok j1 j2 j3 j4 h1 h2 h3 h4
theorem S_look_net (h1 : P_is_net g1) : P_look_net (runF 1 1 (B_look_net j1 g1)) := look_net_ok j1 h1
end
/-! typed nets are sane data -/
theorem isName_str {x : Str} (h : isName (.str x) = true) : x.length ≤ 4 := by
  simp only [isName, Bool.and_eq_true, decide_eq_true_eq] at h
  exact h.1.2
theorem eN_Tm {N : Net} (h : NOk N) : Tm 5 (eN N) := by
  have t1 : ∀ x ∈ N.P.map eP, Tm 1 x := fun x hx => by
    obtain ⟨p, hp, rfl⟩ := List.mem_map.mp hx
    exact Tm_tuple (by simp) (two (Tm_name (h.nm _ (List.mem_map.mpr ⟨p, hp, rfl⟩)) _) Tm_int)
  have t2 : ∀ x ∈ N.W.map eW, Tm 2 x := fun x hx => by
    obtain ⟨w, hw, rfl⟩ := List.mem_map.mp hx
    refine Tm_tuple (by simp) (two (Tm_name (h.wm _ (List.mem_map.mpr ⟨w, hw, rfl⟩)) _) (Tm_tuple (by have := (h.rw w hw).2.1; simp; omega) fun y hy => ?_))
    obtain ⟨n, hn, rfl⟩ := List.mem_map.mp hy
    exact Tm_name (h.nm _ ((h.rw w hw).2.2.2 n hn)) _
  exact Tm_mono (Tm_tuple (k := 3) (by simp) (two (Tm_mono (Tm_tuple (by have := h.p6; simp; omega) t1) (by omega)) (Tm_tuple (by have := h.w8; simp; omega) t2))) (by omega)
theorem eN_sz {N : Net} (h : NOk N) : sz (eN N) = true := (eN_Tm h).2.2
theorem eN_fine {N : Net} (h : NOk N) : fine (eN N) = true := Tm_fine (eN_Tm h) (by omega)
theorem P_look_net.typed {g : List D → R D} (h : P_look_net g) {N : Net} (k : NOk N) : g [eN N] = .ok .none := by
  rw [h _ (eN_sz k) (eN_fine k), if_pos k.is]
theorem arePipes_N {N : Net} (h : NOk N) : arePipes (.tuple (N.P.map eP)) = true := by
  have := h.is
  unfold eN at this
  rw [isNet, Bool.and_eq_true] at this
  exact this.1
def P_is_state_of (g : List D → R D) : Prop := ∀ N, NOk N → ∀ d, sz d = true → g [eN N, d] = .ok (.bool (stOf (N.P.map eP) d))
def P_look_state (g : List D → R D) : Prop := ∀ N, NOk N → ∀ d, sz d = true → g [eN N, d] = if stOf (N.P.map eP) d = true then .ok .none else .ex "NoState"
def P_ways_in (g : List D → R D) : Prop := ∀ N, NOk N → g [eN N] = .ok (.list (N.ws.map .str))
def P_pipes_in (g : List D → R D) : Prop := ∀ N, NOk N → g [eN N] = .ok (.list (N.ns.map .str))
def P_row_of (g : List D → R D) : Prop := ∀ N, NOk N → ∀ w ∈ N.W, g [eN N, .str w.1] = .ok (eR w.2)
def isIn (ns : List Str) : D → Bool
  | .str s => decide (s ∈ ns)
  | _ => false
def P_look_way (g : List D → R D) : Prop := ∀ N, NOk N → ∀ d, sz d = true → g [eN N, d] = if isIn N.ws d = true then .ok .none else .ex "NoWay"
def P_look_pipe (g : List D → R D) : Prop := ∀ N, NOk N → ∀ d, sz d = true → g [eN N, d] = if isIn N.ns d = true then .ok .none else .ex "NoPipe"
def P_look_slug (g : List D → R D) : Prop := ∀ d, sz d = true → g [d] = if isName d = true then .ok .none else .ex "NoSlug"
def isPush (N : Net) : D → Bool
  | .tuple [x, y] => isIn N.ws x && isName y
  | _ => false
def P_is_push_of (g : List D → R D) : Prop := ∀ N, NOk N → ∀ d, sz d = true → g [eN N, d] = .ok (.bool (isPush N d))
def P_look_push (g : List D → R D) : Prop := ∀ N, NOk N → ∀ d, sz d = true → g [eN N, d] = if isPush N d = true then .ok .none else .ex "NoPush"
def P_plain_pushed (g : List D → R D) : Prop := ∀ N, NOk N → ∀ w ∈ N.W, ∀ f, FOk N f → ∀ x, g [eN N, eF N f, .tuple [.str w.1, x]] = .ok (.tuple [eF N (pushF f w.2 x).1, (pushF f w.2 x).2])
def P_plain_drawn (g : List D → R D) : Prop := ∀ N, NOk N → ∀ w ∈ N.W, ∀ f, FOk N f → ∀ x, g [eN N, eF N f, .tuple [.str w.1, x]] = .ok (.tuple [eF N (drawF f w.2 x).1, (drawF f w.2 x).2])
def P_plain_through (g : List D → R D) : Prop := ∀ N, NOk N → ∀ n : Str, g [eN N, .str n] = .ok (.list ((N.W.filter fun w => decide (n ∈ w.2)).map fun w => .str w.1))
section
variable {g1 g2 g3 g4 g5 : List D → R D} {j1 j2 j3 j4 j5 : Nat}
theorem S_is_state_of (h1 : P_is_name g1) : P_is_state_of (runF 2 5 (B_is_state_of j1 g1)) := fun N h d hd =>
  is_state_of_ok j1 h1 (N.P.map eP) _ (arePipes_N h) (by have := h.p6; simp; omega) d hd
theorem S_look_state (h1 : P_is_state_of g1) : P_look_state (runF 2 2 (B_look_state j1 g1)) := fun N h d hd => by
  rw [run1 (np := 2) rfl]
  simp [B_look_state, h1 N h d hd]
  cases stOf (N.P.map eP) d <;> rfl
theorem S_ways_in : P_ways_in (runF 1 2 B_ways_in) := fun N h => ways_in_ok h
theorem S_pipes_in : P_pipes_in (runF 1 2 B_pipes_in) := fun N h => pipes_in_ok h
theorem S_row_of (h1 : P_ways_in g1) : P_row_of (runF 2 2 (B_row_of j1 g1)) := fun N h w hw => row_of_ok h j1 (h1 N h) hw
theorem isName_of_isIn {ns : List Str} (h : ∀ n ∈ ns, isName (.str n) = true) {d : D} (hd : isIn ns d = true) : isName d = true := by
  cases d <;> first | (cases hd; done) | skip
  rename_i s
  exact h s (of_decide_eq_true hd)
theorem look_in {ns : List Str} {d : D} (h : ∀ n ∈ ns, isName (.str n) = true) : (isName d = false ∧ isIn ns d = false) ∨ (∃ s, d = .str s ∧ isName d = true ∧ isIn ns d = decide (s ∈ ns)) := by
  cases hd : isName d with
  | false =>
    left
    refine ⟨rfl, ?_⟩
    cases hi : isIn ns d with
    | false => rfl
    | true => rw [isName_of_isIn h hi] at hd; cases hd
  | true =>
    right
    cases d <;> first | (cases hd; done) | skip
    rename_i s
    exact ⟨s, rfl, rfl, rfl⟩
theorem S_look_way (h1 : P_ways_in g1) (h2 : P_is_name g2) : P_look_way (runF 2 2 (B_look_way j1 g1 j2 g2)) := fun N h d hd => by
  rw [run1 (np := 2) rfl]
  rcases look_in (d := d) h.wm with ⟨e1, e2⟩ | ⟨s, rfl, e1, e2⟩
  · simp [B_look_way, h1 N h, h2 d hd, e1, e2]
  · by_cases hs : s ∈ N.ws
    · simp [B_look_way, h1 N h, h2 _ hd, e1, e2, in_strsL, hs]
    · simp [B_look_way, h1 N h, h2 _ hd, e1, e2, in_strsL, hs]
theorem S_look_pipe (h1 : P_pipes_in g1) (h2 : P_is_name g2) : P_look_pipe (runF 2 2 (B_look_pipe j1 g1 j2 g2)) := fun N h d hd => by
  rw [run1 (np := 2) rfl]
  rcases look_in (d := d) h.nm with ⟨e1, e2⟩ | ⟨s, rfl, e1, e2⟩
  · simp [B_look_pipe, h1 N h, h2 d hd, e1, e2]
  · by_cases hs : s ∈ N.ns
    · simp [B_look_pipe, h1 N h, h2 _ hd, e1, e2, in_strsL, hs]
    · simp [B_look_pipe, h1 N h, h2 _ hd, e1, e2, in_strsL, hs]
theorem S_is_push_of (h1 : P_is_name g1) (h2 : P_ways_in g2) (h3 : P_is_pair g3) : P_is_push_of (runF 2 2 (B_is_push_of j1 g1 j2 g2 j3 g3)) := fun N h d hd => by
  rw [run1 (np := 2) rfl]
  cases hp : isPair d with
  | false =>
    have : isPush N d = false := by
      unfold isPush
      split
      · rename_i x y
        cases hx : isIn N.ws x with
        | false => rfl
        | true =>
          have := isName_of_isIn h.wm hx
          simp [isPair, this] at hp
      · rfl
    simp [B_is_push_of, h3 d hd, hp, this]
  | true =>
    obtain ⟨x, y, rfl, hx⟩ := pair_of hp
    have hs := (sz_tuple hd).2
    have hy : sz y = true := szAll_mem hs (by simp)
    rcases look_in (d := x) h.wm with ⟨e1, e2⟩ | ⟨s, rfl, e1, e2⟩
    · rw [hx] at e1; cases e1
    · simp [B_is_push_of, h3 _ hd, hp, h2 N h, in_strsL, h1 y hy, isPush, e2]
theorem S_look_push (h1 : P_is_push_of g1) : P_look_push (runF 2 2 (B_look_push j1 g1)) := fun N h d hd => by
  rw [run1 (np := 2) rfl]
  simp [B_look_push, h1 N h d hd]
  cases isPush N d <;> rfl
theorem S_plain_pushed (h1 : P_pipes_in g1) (h2 : P_row_of g2) : P_plain_pushed (runF 3 9 (B_plain_pushed j1 g1 j2 g2)) := fun N h w hw f hf x => plain_pushed_ok h j1 j2 (h1 N h) hw (h2 N h w hw) hf x
theorem S_plain_drawn (h1 : P_pipes_in g1) (h2 : P_row_of g2) : P_plain_drawn (runF 3 9 (B_plain_drawn j1 g1 j2 g2)) := fun N h w hw f hf x => plain_drawn_ok h j1 j2 (h1 N h) hw (h2 N h w hw) hf x
theorem filt_len {α β : Type} (xs : List α) (p : α → Bool) (g : α → β) {n : Nat} (h : xs.length ≤ n) : ((xs.filter p).map g).length ≤ n := by
  rw [List.length_map]; exact Nat.le_trans (List.length_filter_le _ _) h
theorem S_plain_through : P_plain_through (runF 2 3 B_plain_through) := fun N h n => by
  rw [run1 (np := 2) rfl]
  have h8 := h.w8
  simp [B_plain_through, eN_1, eW, eR, in_strsT, lstD_ok (filt_len N.W (fun w => decide (n ∈ w.2)) (fun w => PyData.str w.1) (n := 16777216) (by omega))]
def P_look_pushed (g : List D → R D) : Prop := (∀ N, NOk N → ∀ st p, sz st = true → sz p = true → g [eN N, st, p] = if stOf (N.P.map eP) st = true then (if isPush N p = true then .ok .none else .ex "NoPush") else .ex "NoState") ∧
  ∀ d st p, sz d = true → fine d = true → isNet d = false → g [d, st, p] = .ex "NoNet"
/-- what pushes, and pushes drawn back, tell -/
def P_push (F : (Str → List D) → List Str → D → PS) (g : List D → R D) : Prop := (∀ N, NOk N → ∀ w ∈ N.W, ∀ f, SOk N f → ∀ x, isName x = true → g [eN N, eF N f, .tuple [.str w.1, x]] = .ok (.tuple [eF N (F f w.2 x).1, (F f w.2 x).2])) ∧
  (∀ d st p, sz d = true → fine d = true → isNet d = false → g [d, st, p] = .ex "NoNet") ∧
  (∀ N, NOk N → ∀ st p, sz st = true → sz p = true → stOf (N.P.map eP) st = false → g [eN N, st, p] = .ex "NoState") ∧
  ∀ N, NOk N → ∀ f, SOk N f → ∀ p, sz p = true → isPush N p = false → g [eN N, eF N f, p] = .ex "NoPush"
def P_pushed := P_push pushF
def P_drawn := P_push drawF
def P_ways_through (g : List D → R D) : Prop := (∀ N, NOk N → ∀ n ∈ N.ns, g [eN N, .str n] = .ok (.list ((N.W.filter fun w => decide (n ∈ w.2)).map fun w => .str w.1))) ∧
  (∀ d p, sz d = true → fine d = true → isNet d = false → g [d, p] = .ex "NoNet") ∧
  ∀ N, NOk N → ∀ p, sz p = true → isIn N.ns p = false → g [eN N, p] = .ex "NoPipe"
theorem S_look_pushed (h1 : P_look_net g1) (h2 : P_look_state g2) (h3 : P_look_push g3) : P_look_pushed (runF 3 3 (B_look_pushed j1 g1 j2 g2 j3 g3)) := by
  constructor
  · intro N h st p hs hp
    rw [run1 (np := 3) rfl]
    cases e1 : stOf (N.P.map eP) st <;> cases e2 : isPush N p <;> simp [B_look_pushed, h1.typed h, h2 N h st hs, h3 N h p hp, e1, e2]
  · intro d st p hd hf hn
    rw [run1 (np := 3) rfl]
    simp [B_look_pushed, h1 d hd hf, hn]
theorem row_of_zip {N : Net} (f : Str → List D) : zipD (N.ns.map fun n => PyData.tuple (f n)) (N.P.map eP) = N.P.map fun p => .tuple [.tuple (f p.1), eP p] := by
  unfold zipD Net.ns
  rw [List.map_map, List.zipWith_map]
  induction N.P with
  | nil => rfl
  | cons p ps ih => rw [List.zipWith_cons_cons, ih]; rfl
theorem SOk.st {N : Net} {f : Str → List D} (k : SOk N f) : stOf (N.P.map eP) (eF N f) = true := by
  unfold eF
  rw [stOf, row_of_zip]
  simp only [Bool.and_eq_true, List.all_eq_true, decide_eq_true_eq]
  refine ⟨⟨⟨by simp [Net.ns], ?_⟩, ?_⟩, ?_⟩
  · intro x hx
    obtain ⟨n, _, rfl⟩ := List.mem_map.mp hx
    rfl
  · intro x hx
    obtain ⟨p, hp, rfl⟩ := List.mem_map.mp hx
    have := k.ln p hp
    show decide (((f p.1).length : Int) = (p.2 : Int)) = true
    rw [this]; simp
  · intro x hx y hy
    obtain ⟨n, hn, rfl⟩ := List.mem_map.mp hx
    obtain ⟨p, hp, rfl⟩ := List.mem_map.mp hn
    exact k.nm p hp y hy
theorem SOk.Tm {N : Net} (h : NOk N) {f : Str → List D} (k : SOk N f) : Tm 2 (eF N f) := by
  refine Tm_tuple (by have := h.p6; simp [Net.ns]; omega) fun x hx => ?_
  obtain ⟨n, hn, rfl⟩ := List.mem_map.mp hx
  obtain ⟨p, hp, rfl⟩ := List.mem_map.mp hn
  exact Tm_tuple (by have := k.ln p hp; have := (h.ln p hp).2; show (f p.1).length ≤ 1000000; omega) fun y hy => Tm_name (k.nm p hp y hy) _
theorem SOk.sz {N : Net} (h : NOk N) {f : Str → List D} (k : SOk N f) : sz (eF N f) = true := (k.Tm h).2.2
theorem isPush_ok {N : Net} {w : Str × List Str} (hw : w ∈ N.W) {x : D} (hx : isName x = true) : isPush N (.tuple [.str w.1, x]) = true := by
  have : w.1 ∈ N.ws := List.mem_map.mpr ⟨w, hw, rfl⟩
  simp [isPush, isIn, hx, this]
theorem push_sz {N : Net} (h : NOk N) {w : Str × List Str} (hw : w ∈ N.W) {x : D} (hx : isName x = true) : Fp.sz (.tuple [.str w.1, x]) = true := by
  have := (Tm_tuple (k := 0) (xs := [.str w.1, x]) (by simp) (two (Tm_name (h.wm _ (List.mem_map.mpr ⟨w, hw, rfl⟩)) _) (Tm_name hx _))).2.2
  exact this
theorem S_pushed (h1 : P_look_pushed g1) (h2 : P_plain_pushed g2) : P_pushed (runF 3 3 (B_pushed j1 g1 j2 g2)) := by
  refine ⟨fun N h w hw f hf x hx => ?_, fun d st p hd hdf hn => ?_, fun N h st p hs hp hb => ?_, fun N h f hf p hp hb => ?_⟩
  · rw [run1 (np := 3) rfl]
    simp [B_pushed, h1.1 N h _ _ (hf.sz h) (push_sz h hw hx), hf.st, isPush_ok hw hx, h2 N h w hw f (hf.fok h) x]
  · rw [run1 (np := 3) rfl]
    simp [B_pushed, h1.2 d st p hd hdf hn]
  · rw [run1 (np := 3) rfl]
    simp [B_pushed, h1.1 N h _ _ hs hp, hb]
  · rw [run1 (np := 3) rfl]
    simp [B_pushed, h1.1 N h _ _ (hf.sz h) hp, hf.st, hb]
theorem S_drawn (h1 : P_look_pushed g1) (h2 : P_plain_drawn g2) : P_drawn (runF 3 3 (B_drawn j1 g1 j2 g2)) := by
  refine ⟨fun N h w hw f hf x hx => ?_, fun d st p hd hdf hn => ?_, fun N h st p hs hp hb => ?_, fun N h f hf p hp hb => ?_⟩
  · rw [run1 (np := 3) rfl]
    simp [B_drawn, h1.1 N h _ _ (hf.sz h) (push_sz h hw hx), hf.st, isPush_ok hw hx, h2 N h w hw f (hf.fok h) x]
  · rw [run1 (np := 3) rfl]
    simp [B_drawn, h1.2 d st p hd hdf hn]
  · rw [run1 (np := 3) rfl]
    simp [B_drawn, h1.1 N h _ _ hs hp, hb]
  · rw [run1 (np := 3) rfl]
    simp [B_drawn, h1.1 N h _ _ (hf.sz h) hp, hf.st, hb]
theorem S_ways_through (h1 : P_look_net g1) (h2 : P_look_pipe g2) (h3 : P_plain_through g3) : P_ways_through (runF 2 2 (B_ways_through j1 g1 j2 g2 j3 g3)) := by
  refine ⟨fun N h n hn => ?_, fun d p hd hf hn => ?_, fun N h p hp hb => ?_⟩
  · rw [run1 (np := 2) rfl]
    have e : isIn N.ns (.str n) = true := decide_eq_true hn
    simp [B_ways_through, h1.typed h, h2 N h (.str n) (Tm_name (h.nm n hn) 0).2.2, e, h3 N h n]
  · rw [run1 (np := 2) rfl]
    simp [B_ways_through, h1 d hd hf, hn]
  · rw [run1 (np := 2) rfl]
    simp [B_ways_through, h1.typed h, h2 N h p hp, hb]
end
end Fp

set_option Elab.async false
set_option linter.all false
set_option maxRecDepth 100000
set_option maxHeartbeats 1000000
/-! Dicts of typed things; the law's drawn nets and states; its own pushing. -/
namespace Fp
open PySem L2
section
variable {α : Type}
@[simp] theorem kEq_str (a b : Str) : kEq (.str a) (.str b) = decide (a = b) := by
  show decide (NestedKey.text a = NestedKey.text b) = _
  simp
@[simp] theorem okK_str (a : Str) : okK false (.str a) = true := rfl
theorem pairsM (k : α → Str) (v : α → D) : ∀ xs : List α, pairsD false (xs.map fun x => .tuple [.str (k x), v x]) = .ok (xs.map fun x => (.str (k x), v x))
  | [] => rfl
  | x :: xs => by
    rw [List.map_cons, pairsD, okK_str, if_pos rfl, pairsM k v xs]
    rfl
theorem findM {k : α → Str} {v : α → D} : ∀ {xs : List α}, (xs.map k).Nodup → ∀ {x : α}, x ∈ xs → dFind (xs.map fun x => (.str (k x), v x)) (.str (k x)) = some (v x)
  | y :: xs, hd, x, hx => by
    have hd' := List.nodup_cons.mp hd
    rw [dFind, List.map_cons, List.find?_cons]
    by_cases e : k y = k x
    · have : x = y := by
        rcases List.mem_cons.mp hx with h | h
        · exact h
        · exact absurd (List.mem_map.mpr ⟨x, h, e.symm⟩) hd'.1
      subst this
      simp
    · have hx' : x ∈ xs := by
        rcases List.mem_cons.mp hx with h | h
        · subst h; exact absurd rfl e
        · exact h
      have ih := findM (k := k) (v := v) hd'.2 hx'
      rw [dFind] at ih
      simp [e]
      simpa using ih
theorem find_none {k : α → Str} {v : α → D} {xs : List α} {a : Str} (h : a ∉ xs.map k) : dFind (xs.map fun x => (.str (k x), v x)) (.str a) = none := by
  rw [dFind, Option.map_eq_none_iff, List.find?_eq_none]
  intro p hp
  obtain ⟨x, hx, rfl⟩ := List.mem_map.mp hp
  simp only [kEq_str, decide_eq_true_eq]
  intro e
  exact h (List.mem_map.mpr ⟨x, hx, e⟩)
theorem storeM {k : α → Str} {v : α → D} {xs : List α} {a : Str} (h : a ∈ xs.map k) (z : D) : dStore (xs.map fun x => (.str (k x), v x)) (.str a) z = xs.map fun x => (.str (k x), if k x = a then z else v x) := by
  have e : (xs.map fun x => ((.str (k x), v x) : D × D)).any (fun p => kEq p.1 (.str a)) = true := by
    obtain ⟨x, hx, rfl⟩ := List.mem_map.mp h
    rw [List.any_eq_true]
    exact ⟨_, List.mem_map.mpr ⟨x, hx, rfl⟩, by simp⟩
  rw [dStore, if_pos e, List.map_map]
  refine List.map_congr_left fun x _ => ?_
  simp only [Function.comp, kEq_str]
  by_cases e : k x = a
  · simp [e]
  · simp [e]
theorem mergeM {k : α → Str} {v : α → D} : ∀ (xs ys : List α), ((xs ++ ys).map k).Nodup → dMerge (xs.map fun x => (.str (k x), v x)) (ys.map fun x => (.str (k x), v x)) = (xs ++ ys).map fun x => (.str (k x), v x)
  | xs, [], _ => by rw [List.append_nil]; rfl
  | xs, y :: ys, hd => by
    have hn : k y ∉ xs.map k := fun h => by
      rw [List.map_append, List.map_cons] at hd
      exact (List.nodup_append.mp hd).2.2 _ h _ List.mem_cons_self rfl
    have e : (xs.map fun x => ((.str (k x), v x) : D × D)).any (fun p => kEq p.1 (.str (k y))) = false := by
      rw [List.any_eq_false]
      intro p hp
      obtain ⟨x, hx, rfl⟩ := List.mem_map.mp hp
      simp only [kEq_str, decide_eq_true_eq]
      exact fun e => hn (List.mem_map.mpr ⟨x, hx, e⟩)
    have ih := mergeM (k := k) (v := v) (xs ++ [y]) ys (by rw [List.append_assoc]; exact hd)
    rw [List.append_assoc] at ih
    rw [dMerge, List.map_cons, List.foldl_cons, dStore, if_neg (by rw [e]; simp)]
    rw [dMerge, List.map_append] at ih
    exact ih
theorem dOfM {k : α → Str} {v : α → D} {xs : List α} (hd : (xs.map k).Nodup) : dOf false (.list (xs.map fun x => .tuple [.str (k x), v x])) = .ok (xs.map fun x => (.str (k x), v x)) := by
  rw [dOf, pairsM, R.bind_ok]
  exact congrArg R.ok (mergeM (k := k) (v := v) [] xs (by simpa using hd))
theorem dOfMT {k : α → Str} {v : α → D} {xs : List α} (hd : (xs.map k).Nodup) : dOf false (.tuple (xs.map fun x => .tuple [.str (k x), v x])) = .ok (xs.map fun x => (.str (k x), v x)) := by
  rw [dOf, pairsM, R.bind_ok]
  exact congrArg R.ok (mergeM (k := k) (v := v) [] xs (by simpa using hd))
theorem getM {k : α → Str} {v : α → D} {xs : List α} (hd : (xs.map k).Nodup) {x : α} (hx : x ∈ xs) : dGet false (xs.map fun x => (.str (k x), v x)) (.str (k x)) = .ok (v x) := by
  rw [dGet, okK_str, if_pos rfl, findM hd hx]; rfl
theorem putM {k : α → Str} {v : α → D} {xs : List α} {a : Str} (h : a ∈ xs.map k) (hl : xs.length < 16777216) (z : D) : dPut false (xs.map fun x => (.str (k x), v x)) (.str a) z = .ok (xs.map fun x => (.str (k x), if k x = a then z else v x)) := by
  rw [dPut, if_pos ⟨rfl, by rw [List.length_map]; exact hl⟩, storeM h]
end
/-! ### what the law draws -/
def P__law_drawn (g : List D → R D) : Prop := ∀ sc, Sc sc → Drawn g sc
theorem S__law_drawn : P__law_drawn (runF 3 6 B__law_drawn) := fun sc ⟨ns, hl, e⟩ k m h1 h2 h3 => by
  subst e
  exact drawn_ok ns (by omega) k m h1 h2 h3
def P__law_net (g : List D → R D) : Prop := ∀ sc at', Sc sc → 0 ≤ at' → at' < 100000 → ∃ N, NDr N ∧ g [sc, .int at'] = .ok (eN N)
def P__law_state (g : List D → R D) : Prop := ∀ sc at', Sc sc → 0 ≤ at' → at' < 100000 → ∀ N, NDr N → ∃ f, SOk N f ∧ g [sc, .int at', eN N] = .ok (eF N f)
def strD : D → Str
  | .str s => s
  | _ => ""
def toP (d : D) : Str × Nat := (strD (fstD d), (intD (sndD d)).toNat)
def toW (d : D) : Str × List Str := (strD (fstD d), (itD (sndD d)).map strD)
theorem map_id_of {α : Type} {f : α → α} {xs : List α} (h : ∀ x ∈ xs, f x = x) : xs.map f = xs := by
  conv => rhs; rw [← List.map_id xs]
  exact List.map_congr_left fun x hx => h x hx
theorem strD_name {x : D} (h : isName x = true) : PyData.str (strD x) = x := by
  cases x <;> first | (cases h; done) | rfl
theorem str_inj {xs ys : List Str} (h : xs.map PyData.str = ys.map PyData.str) : xs = ys := by
  have : Function.Injective PyData.str := fun a b e => by cases e; rfl
  exact (List.map_inj_right (fun a b e => this e)).mp h
theorem take_pqrs : ∀ n, n < 5 → (List.range n).map (strAt "pqrs") = ((["p", "q", "r", "s"] : List Str).take n).map PyData.str
  | 0, _ => rfl
  | 1, _ => rfl
  | 2, _ => rfl
  | 3, _ => rfl
  | 4, _ => rfl
  | n + 5, h => by omega
theorem take_abcd : ∀ n, n < 5 → (List.range n).map (strAt "abcd") = ((["a", "b", "c", "d"] : List Str).take n).map PyData.str
  | 0, _ => rfl
  | 1, _ => rfl
  | 2, _ => rfl
  | 3, _ => rfl
  | 4, _ => rfl
  | n + 5, h => by omega
theorem GNet_typed {d : D} (h : GNet d) : ∃ N, NDr N ∧ d = eN N := by
  obtain ⟨ps, ws, n, m, rfl, hp, hw, h1, h4, k1, k4⟩ := h
  have hnm := GP_names hp h4
  have eP' : (ps.map toP).map eP = ps := by
    rw [List.map_map]
    refine map_id_of fun p hpm => ?_
    obtain ⟨i, l, hi, rfl, l1, l3⟩ := GP_mem hp hpm
    have := strD_name (strAt_name4 i (by omega))
    simp only [Function.comp, toP, eP, fstD, sndD, intD]
    rw [this]
    congr 3
    simp; omega
  have eW' : (ws.map toW).map eW = ws := by
    rw [List.map_map]
    refine map_id_of fun w hwm => ?_
    obtain ⟨i, row, hi, rfl, hr⟩ := GW_mem hw hwm
    have := strD_name (strAt_name4w i (by omega))
    simp only [Function.comp, toW, eW, fstD, sndD, itD, eR]
    rw [this, List.map_map]
    congr 4
    refine map_id_of fun x hx => strD_name (hnm x (hr.2.2.1 x hx))
  have en : (ps.map toP).map (·.1) = (["p", "q", "r", "s"] : List Str).take n := by
    apply str_inj
    have e1 : ((ps.map toP).map (·.1)).map PyData.str = ps.map fstD := by
      rw [List.map_map, List.map_map]
      refine List.map_congr_left fun p hpm => ?_
      exact strD_name (hnm _ (List.mem_map.mpr ⟨p, hpm, rfl⟩))
    rw [e1, GP_map hp]
    exact take_pqrs n (by omega)
  have ew : (ws.map toW).map (·.1) = (["a", "b", "c", "d"] : List Str).take m := by
    apply str_inj
    have e1 : ((ws.map toW).map (·.1)).map PyData.str = ws.map fstD := by
      rw [List.map_map, List.map_map]
      refine List.map_congr_left fun w hwm => ?_
      obtain ⟨i, row, hi, rfl, hr⟩ := GW_mem hw hwm
      exact strD_name (strAt_name4w i (by omega))
    rw [e1, GW_map hw]
    exact take_abcd m (by omega)
  have hl := hp.1
  have kl := hw.1
  have e0 : eN ⟨ps.map toP, ws.map toW⟩ = .tuple [.tuple ps, .tuple ws] := by rw [eN, eP', eW']
  have es : ((ps.map toP).map (·.1)).map PyData.str = ps.map fstD := by
    rw [en, GP_map hp]
    exact (take_pqrs n (by omega)).symm
  refine ⟨⟨ps.map toP, ws.map toW⟩, ⟨⟨by rw [e0]; exact GNet_is hp hw h1 h4 k1 k4, ?_, ?_, ?_, ?_, by simp; omega, by simp; omega, by simp; omega, by simp; omega, ?_, ?_⟩, by simp; omega, by simp; omega, ?_, ?_, ?_, ?_⟩, e0.symm⟩
  · show ((ps.map toP).map (·.1)).Nodup
    rw [en]
    exact List.Nodup.sublist (List.take_sublist _ _) (by decide)
  · show ((ws.map toW).map (·.1)).Nodup
    rw [ew]
    exact List.Nodup.sublist (List.take_sublist _ _) (by decide)
  · intro x hx
    have hx : x ∈ (ps.map toP).map (·.1) := hx
    rw [en] at hx
    have all : ∀ x ∈ (["p", "q", "r", "s"] : List Str), isName (.str x) = true := by decide +kernel
    exact all x (List.mem_of_mem_take hx)
  · intro x hx
    have hx : x ∈ (ws.map toW).map (·.1) := hx
    rw [ew] at hx
    have all : ∀ x ∈ (["a", "b", "c", "d"] : List Str), isName (.str x) = true := by decide +kernel
    exact all x (List.mem_of_mem_take hx)
  · intro p hpm
    obtain ⟨q, hq, rfl⟩ := List.mem_map.mp hpm
    obtain ⟨i, l, hi, rfl, l1, l3⟩ := GP_mem hp hq
    simp only [toP, sndD, intD]
    omega
  · intro w hwm
    obtain ⟨q, hq, rfl⟩ := List.mem_map.mp hwm
    obtain ⟨i, row, hi, rfl, r1, r3, r4, r5⟩ := GW_mem hw hq
    simp only [toW, sndD, itD]
    have inj : (row.map strD).map PyData.str = row := by
      rw [List.map_map]
      exact map_id_of fun x hx => strD_name (hnm x (r4 x hx))
    refine ⟨fun e => ?_, by simp; omega, ?_, fun x hx => ?_⟩
    · rw [e] at inj
      rw [← inj] at r1
      simp at r1
    · have : ((row.map strD).map PyData.str).Nodup := by rw [inj]; exact r5
      exact List.Pairwise.of_map PyData.str (fun a b h e => h (by rw [e])) this
    · obtain ⟨y, hy, rfl⟩ := List.mem_map.mp hx
      have hy2 := r4 y hy
      rw [← es] at hy2
      obtain ⟨z, hz, rfl⟩ := List.mem_map.mp hy2
      exact hz
  · intro p hpm
    obtain ⟨q, hq, rfl⟩ := List.mem_map.mp hpm
    obtain ⟨i, l, hi, rfl, l1, l3⟩ := GP_mem hp hq
    simp only [toP, sndD, intD]
    omega
  · intro w hwm
    obtain ⟨q, hq, rfl⟩ := List.mem_map.mp hwm
    obtain ⟨i, row, hi, rfl, r1, r3, r4, r5⟩ := GW_mem hw hq
    simp only [toW, sndD, itD]
    simp; omega
  · show (ps.map toP).map (·.1) = _
    rw [en, List.length_map, hl]
  · show (ws.map toW).map (·.1) = _
    rw [ew, List.length_map, kl]
theorem eP_mapGP {N : Net} (h : NDr N) : GP (N.P.map eP) N.P.length := by
  refine ⟨List.length_map _, fun i hi => ?_⟩
  obtain ⟨p, hp⟩ : ∃ p, N.P[i]? = some p := ⟨_, List.getElem?_eq_getElem hi⟩
  have hpm := List.mem_of_getElem? hp
  have h1 := (h.ln p hpm).1
  have h3 := h.l3 p hpm
  refine ⟨p.2, ?_, by omega, by omega⟩
  rw [List.getElem?_map, hp]
  have e : (N.ns.map PyData.str)[i]? = some (strAt "pqrs" i) := by
    rw [h.pn, ← take_pqrs _ (by have := h.p4; omega), List.getElem?_map, List.getElem?_range hi]; rfl
  rw [Net.ns, List.map_map, List.getElem?_map, hp] at e
  have e2 : PyData.str p.1 = strAt "pqrs" i := Option.some.inj e
  rw [← e2]
  rfl
theorem nd_at {N : Net} (h : NOk N) {i : Nat} (hi : i < N.P.length) : N.ns.idxOf (N.P[i]).1 = i := by
  have hj' : i < N.ns.length := by rw [len_ns]; exact hi
  have : N.ns[i] = (N.P[i]).1 := by
    show (N.P.map (·.1))[i]'(by simpa [Net.ns] using hj') = _
    rw [List.getElem_map]
  rw [← this]
  exact List.Nodup.idxOf_getElem h.nd i hj'
theorem GState_typed {N : Net} (h : NDr N) {d : D} (k : GState (N.P.map eP) d) : ∃ f, SOk N f ∧ d = eF N f := by
  obtain ⟨rows, rfl, hl, hr⟩ := k
  rw [List.length_map] at hl hr
  have hat : ∀ i (hi : i < N.P.length), ∃ xs : List D, rows[i]? = some (.tuple xs) ∧ xs.length = (N.P[i]).2 ∧ ∀ x ∈ xs, x ∈ slugs := fun i hi => by
    obtain ⟨p, r, h1, h2, xs, rfl, h3, h4⟩ := hr i hi
    rw [List.getElem?_map, List.getElem?_eq_getElem hi] at h1
    have : p = eP N.P[i] := (Option.some.inj h1).symm
    subst this
    have h3 : (xs.length : Int) = ((N.P[i]).2 : Int) := h3
    exact ⟨xs, h2, by omega, h4⟩
  have hf : ∀ i (hi : i < N.P.length), (rows[i]?.map itD).getD [] = itD (rows[N.ns.idxOf (N.P[i]).1]?.getD .none) := fun i hi => by
    rw [nd_at h.toNOk hi]
    obtain ⟨xs, e, _⟩ := hat i hi
    rw [e]; rfl
  refine ⟨fun n => itD (rows[N.ns.idxOf n]?.getD .none), ⟨fun p hp => ?_, fun p hp x hx => ?_⟩, ?_⟩
  · obtain ⟨i, hi, rfl⟩ := List.mem_iff_getElem.mp hp
    obtain ⟨xs, e, e2, _⟩ := hat i hi
    simp only [nd_at h.toNOk hi, e]
    exact e2
  · obtain ⟨i, hi, rfl⟩ := List.mem_iff_getElem.mp hp
    obtain ⟨xs, e, _, e2⟩ := hat i hi
    simp only [nd_at h.toNOk hi, e] at hx
    exact slug_name x (e2 x hx)
  · unfold eF
    congr 1
    apply List.ext_getElem?
    intro i
    by_cases hi : i < N.P.length
    · obtain ⟨xs, e, _⟩ := hat i hi
      rw [e, Net.ns, List.map_map, List.getElem?_map, List.getElem?_eq_getElem hi]
      show _ = some (PyData.tuple (itD (rows[N.ns.idxOf (N.P[i]).1]?.getD .none)))
      rw [nd_at h.toNOk hi, e]
      rfl
    · rw [List.getElem?_eq_none (by omega), List.getElem?_eq_none (by rw [List.length_map, len_ns]; omega)]
section
variable {g1 : List D → R D} {j1 : Nat}
theorem S__law_net (h1 : P__law_drawn g1) : P__law_net (runF 2 9 (B__law_net j1 g1)) := fun sc at' hs h0 h2 => by
  obtain ⟨d, e, hd⟩ := net_ok (j := j1) (h1 sc hs) h0 h2
  obtain ⟨N, hN, rfl⟩ := GNet_typed hd
  exact ⟨N, hN, e⟩
theorem S__law_state (h1 : P__law_drawn g1) : P__law_state (runF 3 8 (B__law_state j1 g1)) := fun sc at' hs h0 h2 N hN => by
  obtain ⟨d, e, hd⟩ := state_ok (j := j1) (w := .tuple (N.W.map eW)) (h1 sc hs) h0 h2 (eP_mapGP hN) (by have := hN.p4; omega)
  obtain ⟨f, hf, rfl⟩ := GState_typed hN hd
  exact ⟨f, hf, e⟩
end
end Fp

set_option Elab.async false
set_option linter.all false
set_option maxRecDepth 100000
set_option maxHeartbeats 1000000
/-! The law's own pushing. -/
namespace Fp
open PySem L2
def P__law_push (g : List D → R D) : Prop := ∀ N, NOk N → ∀ w ∈ N.W, ∀ f, FOk N f → ∀ x,
  g [eN N, eF N f, .str w.1, x, .int 1] = .ok (.tuple [eF N (pushF f w.2 x).1, (pushF f w.2 x).2]) ∧
  g [eN N, eF N f, .str w.1, x, .int (-1)] = .ok (.tuple [eF N (drawF f w.2 x).1, (drawF f w.2 x).2])
theorem pushF_ok {N : Net} {f : Str → List D} (h : FOk N f) (x : D) (row : List Str) : FOk N (pushF f row x).1 := by
  have : ∀ (row : List Str) (s : PS), FOk N s.1 → FOk N (row.foldl stepF s).1 := fun row => by
    induction row with
    | nil => exact fun s h => h
    | cons n row ih => exact fun s h => ih _ (stepF_ok h)
  exact this row _ h
theorem drawF_ok {N : Net} {f : Str → List D} (h : FOk N f) (x : D) (row : List Str) : FOk N (drawF f row x).1 := by
  have : ∀ (row : List Str) (s : PS), FOk N s.1 → FOk N (row.foldl stepB s).1 := fun row => by
    induction row with
    | nil => exact fun s h => h
    | cons n row ih => exact fun s h => ih _ (stepB_ok h)
  exact this _ _ h
@[simp] theorem zip_PN (N : Net) : N.P.zip N.ns = N.P.map fun p => (p, p.1) := by
  unfold Net.ns
  induction N.P with
  | nil => rfl
  | cons p ps ih => rw [List.map_cons, List.zip_cons_cons, ih, List.map_cons]
@[simp] theorem zip_NP (N : Net) : N.ns.zip N.P = N.P.map fun p => (p.1, p) := by
  unfold Net.ns
  induction N.P with
  | nil => rfl
  | cons p ps ih => rw [List.map_cons, List.zip_cons_cons, ih, List.map_cons]
/-- the rows by name, as a dict -/
def dF (N : Net) (f : Str → List D) : List (D × D) := N.ns.map fun n => (.str n, .list (f n))
theorem ns_nd {N : Net} (h : NOk N) : (N.ns.map fun n => n).Nodup := by rw [List.map_id']; exact h.nd
theorem dF_of {N : Net} (h : NOk N) (f : Str → List D) : dOf false (.list (N.P.map fun p => .tuple [.str p.1, .list (f p.1)])) = .ok (dF N f) := by
  have := dOfM (k := fun n => n) (v := fun n => PyData.list (f n)) (ns_nd h)
  rw [Net.ns, List.map_map] at this
  exact this
theorem dF_get {N : Net} (h : NOk N) (f : Str → List D) {n : Str} (hn : n ∈ N.ns) : dGet false (dF N f) (.str n) = .ok (.list (f n)) :=
  getM (k := fun n => n) (v := fun n => PyData.list (f n)) (ns_nd h) hn
theorem dF_put {N : Net} (h : NOk N) (f : Str → List D) {n : Str} (hn : n ∈ N.ns) (zs : List D) : dPut false (dF N f) (.str n) (.list zs) = .ok (dF N fun m => if m = n then zs else f m) := by
  have hl : N.ns.length < 16777216 := by have := h.p6; rw [len_ns]; omega
  have := putM (k := fun n => n) (v := fun n => PyData.list (f n)) (xs := N.ns) (a := n) (by rw [List.map_id']; exact hn) hl (.list zs)
  rw [dF, this, dF]
  congr 1
  refine List.map_congr_left fun m _ => ?_
  show (PyData.str m, if m = n then PyData.list zs else .list (f m)) = (PyData.str m, PyData.list (if m = n then zs else f m))
  split <;> rfl
theorem dF_getP {N : Net} (h : NOk N) (f : Str → List D) {p : Str × Nat} (hp : p ∈ N.P) : dGet false (dF N f) (.str p.1) = .ok (.list (f p.1)) := dF_get h f (List.mem_map.mpr ⟨p, hp, rfl⟩)
/-- the ways' rows, as a dict -/
def dW (N : Net) : List (D × D) := N.W.map fun w => (.str w.1, eR w.2)
theorem dW_of {N : Net} (h : NOk N) : dOf false (.tuple (N.W.map eW)) = .ok (dW N) := dOfMT (k := fun w : Str × List Str => w.1) (v := fun w => eR w.2) h.wd
theorem dW_get {N : Net} (h : NOk N) {w : Str × List Str} (hw : w ∈ N.W) : dGet false (dW N) (.str w.1) = .ok (eR w.2) := getM (k := fun w : Str × List Str => w.1) (v := fun w => eR w.2) h.wd hw
theorem add_LL {xs ys : List D} (h : xs.length + ys.length ≤ 16777216) : dBin .add (.list xs) (.list ys) = .ok (.list (xs ++ ys)) := dAdd_L h
theorem S__law_push : P__law_push (runF 5 10 B__law_push) := fun N h w hw f hf x => by
  have hp6 := h.p6
  have hl : (N.P.map fun p => PyData.tuple [.str p.1, .list (f p.1)]).length ≤ 16777216 := by rw [List.length_map]; omega
  have hsub := (h.rw w hw).2.2.2
  have tl : ∀ g : Str → List D, (N.P.map fun p => PyData.tuple (g p.1)).length ≤ 16777216 := fun g => by rw [List.length_map]; omega
  constructor
  · rw [run1 (np := 5) rfl]
    simp [B__law_push, eN_0, eN_1, eF, eP, Function.comp_def, lstD_ok hl, dF_of h, dW_of h, dW_get h hw, eR]
    refine for_post (Q := fun fl => fl.out = _) stepF (fun s env => (∃ s6 s7 s9, env = [.val (eN N), .val (eF N f), .val (.str w.1), .val s.2, .val (.int 1), .own (.dict (dF N s.1)), s6, s7, .val (.list (w.2.map .str)), s9]) ∧ FOk N s.1) (s := (f, x)) ⟨⟨_, _, _, rfl⟩, hf⟩ ?_ ?_
    · rintro n hn s env ⟨⟨s6, s7, s9, rfl⟩, ok⟩
      have hns := hsub n hn
      have hle := ok.le n hns
      simp [forF, dF_get h s.1 hns, idxL_last (lastD_ok (ok.ne n hns))]
      rw [add_LL (by simp; omega)]
      simp [dF_put h s.1 hns]
      exact ⟨⟨rfl, rfl⟩, stepF_ok ok⟩
    · rintro env ⟨⟨s6, s7, s9, rfl⟩, ok⟩
      simp +contextual [eN_0, eP, dF_getP h, lstD_ok (tl _)]
      simp [Net.ns, Function.comp_def, pushF]
  · rw [run1 (np := 5) rfl]
    simp [B__law_push, eN_0, eN_1, eF, eP, Function.comp_def, lstD_ok hl, dF_of h, dW_of h, dW_get h hw, eR, ← List.map_reverse]
    refine for_post (Q := fun fl => fl.out = _) stepB (fun s env => (∃ s6 s7 s9, env = [.val (eN N), .val (eF N f), .val (.str w.1), .val s.2, .val (.int (-1)), .own (.dict (dF N s.1)), s6, s7, .val (.list (w.2.map .str)), s9]) ∧ FOk N s.1) (s := (f, x)) ⟨⟨_, _, _, rfl⟩, hf⟩ ?_ ?_
    · rintro n hn s env ⟨⟨s6, s7, s9, rfl⟩, ok⟩
      have hns := hsub n (List.mem_reverse.mp hn)
      have hle := ok.le n hns
      simp [forF, dF_get h s.1 hns, idxL_z (headD_ok (ok.ne n hns))]
      rw [add_LL (by simp; omega)]
      simp [dF_put h s.1 hns]
      exact ⟨⟨rfl, rfl⟩, stepB_ok ok⟩
    · rintro env ⟨⟨s6, s7, s9, rfl⟩, ok⟩
      simp +contextual [eN_0, eP, dF_getP h, lstD_ok (tl _)]
      simp [Net.ns, Function.comp_def, drawF]
end Fp

set_option Elab.async false
set_option linter.all false
set_option maxRecDepth 100000
set_option maxHeartbeats 1000000
/-! Equality of told things, picks out of lists, pushes of names, handlers. -/
namespace Fp
open PySem L2
theorem eqv_self {d : D} (h : fine d = true) : PyData.eqv d d = true := by
  unfold fine at h
  rw [Bool.and_eq_true] at h
  exact PySem.SeqAt.eqv_refl_plain d h.1
theorem dEq_self {d : D} (h : fine d = true) : dEq d d = .ok true := by rw [dEq_ok h h, eqv_self h]
theorem ne_self {d : D} (h : fine d = true) : notR (dEq d d) = .ok false := by rw [dEq_self h]; rfl
theorem pick {xs : List D} {r : Int} (h0 : 0 ≤ r) (h1 : r < xs.length) : ∃ y ∈ xs, dIdx (.list xs) (.int r) = .ok y := by
  obtain ⟨n, rfl⟩ := Int.eq_ofNat_of_zero_le h0
  have hn : n < xs.length := by omega
  exact ⟨xs[n], List.getElem_mem _, idxL_nat (List.getElem?_eq_getElem hn)⟩
theorem pickT {xs : List D} {r : Int} (h0 : 0 ≤ r) (h1 : r < xs.length) : ∃ y ∈ xs, dIdx (.tuple xs) (.int r) = .ok y := by
  obtain ⟨n, rfl⟩ := Int.eq_ofNat_of_zero_le h0
  have hn : n < xs.length := by omega
  exact ⟨xs[n], List.getElem_mem _, idxT_nat (List.getElem?_eq_getElem hn)⟩
/-! pushes keep states -/
theorem stepF_S {N : Net} {s : PS} {n : Str} (hn : n ∈ N.ns) (h : NOk N) (k : SOk N s.1) (hx : isName s.2 = true) : SOk N (stepF s n).1 ∧ isName (stepF s n).2 = true := by
  obtain ⟨q, hq, rfl⟩ := List.mem_map.mp hn
  have hne := (k.fok h).ne _ hn
  have hl := k.ln q hq
  refine ⟨⟨fun p hp => ?_, fun p hp x hx' => ?_⟩, ?_⟩
  · show (if p.1 = q.1 then s.2 :: (s.1 q.1).dropLast else s.1 p.1).length = _
    split
    · rename_i e
      have := k.ln p hp
      rw [e] at this
      have := List.length_pos_iff.mpr hne
      rw [List.length_cons, List.length_dropLast]
      omega
    · exact k.ln p hp
  · have hx' : x ∈ (if p.1 = q.1 then s.2 :: (s.1 q.1).dropLast else s.1 p.1) := hx'
    split at hx'
    · rcases List.mem_cons.mp hx' with rfl | h'
      · exact hx
      · exact k.nm q hq x (List.dropLast_subset _ h')
    · exact k.nm p hp x hx'
  · exact k.nm q hq _ (List.mem_of_getLast? (lastD_ok hne))
theorem stepB_S {N : Net} {s : PS} {n : Str} (hn : n ∈ N.ns) (h : NOk N) (k : SOk N s.1) (hx : isName s.2 = true) : SOk N (stepB s n).1 ∧ isName (stepB s n).2 = true := by
  obtain ⟨q, hq, rfl⟩ := List.mem_map.mp hn
  have hne := (k.fok h).ne _ hn
  have hl := k.ln q hq
  refine ⟨⟨fun p hp => ?_, fun p hp x hx' => ?_⟩, ?_⟩
  · show (if p.1 = q.1 then (s.1 q.1).tail ++ [s.2] else s.1 p.1).length = _
    split
    · rename_i e
      have := k.ln p hp
      rw [e] at this
      have := List.length_pos_iff.mpr hne
      rw [List.length_append, List.length_tail, List.length_singleton]
      omega
    · exact k.ln p hp
  · have hx' : x ∈ (if p.1 = q.1 then (s.1 q.1).tail ++ [s.2] else s.1 p.1) := hx'
    split at hx'
    · rcases List.mem_append.mp hx' with h' | h'
      · exact k.nm q hq x (List.mem_of_mem_tail h')
      · rw [List.mem_singleton] at h'
        rw [h']
        exact hx
    · exact k.nm p hp x hx'
  · exact k.nm q hq _ (List.mem_of_getElem? (headD_ok hne))
theorem push_S {N : Net} (h : NOk N) {f : Str → List D} (k : SOk N f) {x : D} (hx : isName x = true) {row : List Str} (hr : ∀ n ∈ row, n ∈ N.ns) : SOk N (pushF f row x).1 ∧ isName (pushF f row x).2 = true := by
  have : ∀ (row : List Str), (∀ n ∈ row, n ∈ N.ns) → ∀ (s : PS), SOk N s.1 → isName s.2 = true → SOk N (row.foldl stepF s).1 ∧ isName (row.foldl stepF s).2 = true := fun row => by
    induction row with
    | nil => exact fun _ s h1 h2 => ⟨h1, h2⟩
    | cons n row ih => exact fun hr s h1 h2 => have := stepF_S (hr n List.mem_cons_self) h h1 h2; ih (fun m hm => hr m (List.mem_cons_of_mem _ hm)) _ this.1 this.2
  exact this row hr _ k hx
theorem draw_S {N : Net} (h : NOk N) {f : Str → List D} (k : SOk N f) {x : D} (hx : isName x = true) {row : List Str} (hr : ∀ n ∈ row, n ∈ N.ns) : SOk N (drawF f row x).1 ∧ isName (drawF f row x).2 = true := by
  have : ∀ (row : List Str), (∀ n ∈ row, n ∈ N.ns) → ∀ (s : PS), SOk N s.1 → isName s.2 = true → SOk N (row.foldl stepB s).1 ∧ isName (row.foldl stepB s).2 = true := fun row => by
    induction row with
    | nil => exact fun _ s h1 h2 => ⟨h1, h2⟩
    | cons n row ih => exact fun hr s h1 h2 => have := stepB_S (hr n List.mem_cons_self) h h1 h2; ih (fun m hm => hr m (List.mem_cons_of_mem _ hm)) _ this.1 this.2
  exact this _ (fun n hn => hr n (List.mem_reverse.mp hn)) _ k hx
/-- what a push tells is sane -/
theorem told_fine {N : Net} (h : NOk N) {f : Str → List D} (k : SOk N f) {x : D} (hx : isName x = true) : fine (.tuple [eF N f, x]) = true :=
  Tm_fine (Tm_tuple (k := 2) (by simp) (two (k.Tm h) (Tm_name hx _))) (by omega)
/-! handlers -/
def tryF (i : Nat) (c : Str) (ks : List Str) (h : Ss) : Fl → Fl
  | .ex d e => if ks.contains d = false then .no else if isSub d c = true then (match setS i (.exc d) (noExc e) with
      | .ok e => (match exSs h e with
        | .nx e => ofE (setS i .un (noExc e))
        | .rt d => .rt d
        | _ => .no)
      | _ => .no) else .ex d e
  | r => r
theorem x_tryx {env : Env} (b : Ss) (i : Nat) (c : Str) (ks : List Str) (h : Ss) : exS (.tryx b i c ks h) env = tryF i c ks h (exSs b env) := by
  rw [exS]; cases exSs b env <;> rfl
@[simp] theorem tryF_nx (i : Nat) (c : Str) (ks : List Str) (h : Ss) (e : Env) : tryF i c ks h (.nx e) = .nx e := rfl
@[simp] theorem tryF_rt (i : Nat) (c : Str) (ks : List Str) (h : Ss) (d : D) : tryF i c ks h (.rt d) = .rt d := rfl
theorem tryF_ex {i : Nat} {c : Str} {ks : List Str} {h : Ss} {d : Str} {e : Env} {x : D} (h1 : ks.contains d = true) (h2 : isSub d c = true) (hi : i < e.length) (k : exSs h ((noExc e).set i (.exc d)) = .rt x) : tryF i c ks h (.ex d e) = .rt x := by
  show (if ks.contains d = false then Fl.no else _) = _
  rw [h1, if_neg (by simp), if_pos h2, setS, if_pos (by unfold noExc; rw [List.length_map]; exact hi)]
  dsimp only
  rw [k]
def lcK : R (Option D) → R (List D) → R (List D)
  | .ok (some y), .ok ys => .ok (y :: ys)
  | .ok none, r => r
  | _, _ => .no
@[simp] theorem lcK_some (y : D) (ys : List D) : lcK (.ok (some y)) (.ok ys) = .ok (y :: ys) := rfl
@[simp] theorem lcK_none (r : R (List D)) : lcK (.ok none) r = r := rfl
@[simp] theorem lcGo_nil (F : D → R (Option D)) : lcGo F [] = .ok [] := rfl
@[simp] theorem lcGo_consK (F : D → R (Option D)) (x : D) (xs : List D) : lcGo F (x :: xs) = lcK (F x) (lcGo F xs) := by
  rw [lcGo]
  rcases F x with (_ | y) | c | _ <;> try rfl
  cases lcGo F xs <;> rfl
@[simp] theorem lstD_map {α : Type} {xs : List α} {g : α → D} (h : xs.length ≤ 16777216) : lstD (xs.map g) = .ok (.list (xs.map g)) := lstD_ok (by rw [List.length_map]; exact h)
@[simp] theorem lstD_filt {α : Type} {xs : List α} {p : α → Bool} {g : α → D} (h : xs.length ≤ 16777216) : lstD ((xs.filter p).map g) = .ok (.list ((xs.filter p).map g)) := lstD_ok (filt_len xs p g h)
theorem lcGo_raw (F : D → R (Option D)) (xs : List D) : lcGo F xs = tGoM xs fun x _ => F x := by
  have := lcGo_map' F (fun x : D => x) xs
  rw [List.map_id'] at this
  exact this
theorem for_relN {α β : Type} {F : D → Env → Fl} {c : α → D} {step : β → α → β} {P : Nat → β → Env → Prop} : ∀ {xs : List α} {n : Nat} {s : β} {env : Env}, P n s env → (∀ i x, xs[i]? = some x → ∀ s env, P (n + i) s env → Nx (F (c x) env) (P (n + i + 1) (step s x))) →
    ∃ env', forGo F (xs.map c) env = .nx env' ∧ P (n + xs.length) (xs.foldl step s) env'
  | [], n, s, env, h, _ => ⟨env, rfl, h⟩
  | x :: xs, n, s, env, h, k => by
    obtain ⟨env1, e1, h1⟩ := k 0 x rfl s env h
    obtain ⟨env2, e2, h2⟩ := for_relN (F := F) (c := c) (step := step) (P := P) (xs := xs) (n := n + 1) h1 fun i y hy s env he => by
      have := k (i + 1) y (by simpa using hy) s env (by rw [show n + (i + 1) = n + 1 + i by omega]; exact he)
      rw [show n + (i + 1) + 1 = n + 1 + i + 1 by omega] at this
      exact this
    refine ⟨env2, ?_, by rw [List.length_cons, show n + (xs.length + 1) = n + 1 + xs.length by omega]; exact h2⟩
    rw [List.map_cons, forGo, e1]
    exact e2
/-- a loop by its turns' numbers -/
theorem for_postN {α β : Type} {F : D → Env → Fl} {c : α → D} {xs : List α} {env : Env} {f : Env → Fl} {Q : Fl → Prop} (step : β → α → β) (P : Nat → β → Env → Prop) {s : β} (h0 : P 0 s env)
    (st : ∀ i x, xs[i]? = some x → ∀ s env, P i s env → Nx (F (c x) env) (P (i + 1) (step s x))) (k : ∀ env', P xs.length (xs.foldl step s) env' → Q (f env')) : Q ((forGo F (xs.map c) env).andThen f) := by
  obtain ⟨env', e, h⟩ := for_relN (F := F) (c := c) (step := step) (P := P) (xs := xs) (n := 0) h0 fun i x hx s env he => by
    rw [Nat.zero_add] at he ⊢
    exact st i x hx s env he
  rw [e]
  rw [Nat.zero_add] at h
  exact k env' h
theorem rng_2 : rng (.int 0) (.int 2) = .ok [.int 0, .int 1] := rfl
theorem rng_3 : rng (.int 0) (.int 3) = .ok [.int 0, .int 1, .int 2] := rfl
theorem rng_4 : rng (.int 0) (.int 4) = .ok [.int 0, .int 1, .int 2, .int 3] := rfl
end Fp

set_option Elab.async false
set_option linter.all false
set_option maxRecDepth 100000
set_option maxHeartbeats 0

namespace Fp
open PySem
/-- _law_no: 0 _law_way, 1 _law_net_here, 2 _law_state_here, 3 _law_run_here, 4 _law_one, 5 e, 6 _law_flags -/
def Bk05__law_no (exs : List Str) (j_behind : Nat) (g_behind : List D → R D) (j_outs_of : Nat) (g_outs_of : List D → R D) (j_where : Nat) (g_where : List D → R D) (j_whence : Nat) (g_whence : List D → R D) (j_is_run : Nat) (g_is_run : List D → R D) (j_delay : Nat) (g_delay : List D → R D) : Ss := (.cons (.tryx (.cons (.ife (.cmp .eq (.slot 0) (.cst (.int 0))) (.cons (.exp (.call j_behind g_behind (.cons (.slot 1) (.cons (.slot 2) (.cons (.slot 3) .nil)))))
 .nil) (.cons (.ife (.cmp .eq (.slot 0) (.cst (.int 1))) (.cons (.exp (.call j_outs_of g_outs_of (.cons (.slot 1) (.cons (.slot 2) (.cons (.slot 3) (.cons (.slot 4) .nil))))))
 .nil) (.cons (.ife (.cmp .lt (.slot 0) (.cst (.int 4))) (.cons (.exp (.sel [j_where, j_whence] [g_where, g_whence] (.bin .sub (.slot 0) (.cst (.int 2))) (.cons (.slot 1) (.cons (.slot 3) (.cons (.slot 4) .nil)))))
 .nil) (.cons (.ife (.cmp .eq (.slot 0) (.cst (.int 4))) (.cons (.exp (.call j_is_run g_is_run (.cons (.slot 1) (.cons (.slot 3) .nil))))
 .nil) (.cons (.exp (.call j_delay g_delay (.cons (.slot 1) (.cons (.slot 4) .nil))))
 .nil))
 .nil))
 .nil))
 .nil))
 .nil) 5 "PipeError" exs (.cons (.asn (.nm 6) (.lst (.cons (.exi 5 "NoNet") (.cons (.exi 5 "NoState") (.cons (.exi 5 "NoRun") .nil)))))
 (.cons (.ret (.met .index (.bin .add (.slot 6) (.lst (.cons (.exi 5 "NoSpot") (.cons (.exi 5 "NoWay") .nil)))) (.cons (.cst (.bool true)) .nil)))
 .nil)))
 (.cons (.ret (.cst .none))
 .nil))
/-- _law_refused: 0 _law_script, 1 _law_net_here, 2 _law_state_here, 3 _law_run_here, 4 _law_bad, 5 _law_no_run, 6 _law_odd, 7 _law_no_state, 8 _law_told, 9 _law_way -/
def Bk05__law_refused (j__law_drawn : Nat) (g__law_drawn : List D → R D) (j__law_no : Nat) (g__law_no : List D → R D) (j_is_run : Nat) (g_is_run : List D → R D) : Ss := (.cons (.asn (.nm 4) (.lst (.cons (.cst .none) (.cons (.tup .nil) (.cons (.lst (.cons (.cst .none) .nil)) (.cons (.lst (.cons (.tup (.cons (.cst (.str "zz")) (.cons (.cst (.str "x")) .nil))) .nil)) (.cons (.lst (.cons (.tup (.cons (.cst (.str "a")) (.cons (.cst (.str "X")) .nil))) .nil)) (.cons (.lst (.cons (.tup (.cons (.cst (.str "a")) .nil)) .nil)) (.cons (.lst (.cons (.lst (.cons (.cst (.str "a")) (.cons (.cst (.str "x")) .nil))) .nil)) (.cons (.blt .tuple (.cons (.slot 3) .nil)) .nil))))))))))
 (.cons (.asn (.nm 5) (.idx (.slot 4) (.call j__law_drawn g__law_drawn (.cons (.slot 0) (.cons (.cst (.int 200)) (.cons (.cst (.int 8)) .nil))))))
 (.cons (.asn (.nm 6) (.idx (.lst (.cons (.cst .none) (.cons (.tup .nil) (.cons (.tup (.cons (.cst (.str "p")) .nil)) (.cons (.tup (.cons (.cst (.str "p")) (.cons (.neg (.cst (.int 1))) .nil))) (.cons (.tup (.cons (.cst (.str "p")) (.cons (.cst (.int 4)) .nil))) (.cons (.tup (.cons (.cst (.str "zz")) (.cons (.cst (.int 0)) .nil))) (.cons (.tup (.cons (.cst (.str "p")) (.cons (.cst (.bool true)) .nil))) (.cons (.lst (.cons (.cst (.str "p")) (.cons (.cst (.int 0)) .nil))) (.cons (.cst (.str "P")) .nil)))))))))) (.call j__law_drawn g__law_drawn (.cons (.slot 0) (.cons (.cst (.int 201)) (.cons (.cst (.int 9)) .nil))))))
 (.cons (.asn (.nm 7) (.idx (.lst (.cons (.cst .none) (.cons (.tup .nil) (.cons (.sli (.slot 2) (.som (.cst (.int 1))) .non) (.cons (.blt .list (.cons (.slot 2) .nil)) .nil))))) (.call j__law_drawn g__law_drawn (.cons (.slot 0) (.cons (.cst (.int 202)) (.cons (.cst (.int 4)) .nil))))))
 (.cons (.asn (.nm 8) (.lc [9] (.nm 9) (.rg1 (.cst (.int 6))) .nil (.call j__law_no g__law_no (.cons (.slot 9) (.cons (.sli (.slot 1) .non (.som (.cst (.int 1)))) (.cons (.slot 7) (.cons (.slot 5) (.cons (.slot 6) .nil))))))))
 (.cons (.asn (.nm 8) (.bin .add (.slot 8) (.lc [9] (.nm 9) (.rg1 (.cst (.int 2))) .nil (.call j__law_no g__law_no (.cons (.slot 9) (.cons (.slot 1) (.cons (.slot 7) (.cons (.slot 5) (.cons (.slot 6) .nil)))))))))
 (.cons (.asn (.nm 8) (.bin .add (.slot 8) (.lc [9] (.nm 9) (.rg1 (.cst (.int 4))) .nil (.call j__law_no g__law_no (.cons (.slot 9) (.cons (.slot 1) (.cons (.slot 2) (.cons (.slot 5) (.cons (.slot 6) .nil)))))))))
 (.cons (.asn (.nm 8) (.bin .add (.slot 8) (.lc [9] (.nm 9) (.dat (.tup (.cons (.cst (.int 1)) (.cons (.cst (.int 2)) (.cons (.cst (.int 3)) (.cons (.cst (.int 5)) .nil)))))) .nil (.call j__law_no g__law_no (.cons (.slot 9) (.cons (.slot 1) (.cons (.slot 2) (.cons (.slot 3) (.cons (.slot 6) .nil)))))))))
 (.cons (.ife (.cmp .ne (.slot 8) (.bin .add (.bin .add (.bin .add (.bin .mul (.lst (.cons (.cst (.int 0)) .nil)) (.cst (.int 6))) (.lst (.cons (.cst (.int 1)) (.cons (.cst (.int 1)) .nil)))) (.bin .mul (.lst (.cons (.cst (.int 2)) .nil)) (.cst (.int 4)))) (.lst (.cons (.cst (.int 4)) (.cons (.cst (.int 3)) (.cons (.cst (.int 3)) (.cons (.cst (.int 4)) .nil))))))) (.cons (.ret (.cst (.bool false)))
 .nil) .nil)
 (.cons (.ret (.and (.isk false (.call j_is_run g_is_run (.cons (.slot 1) (.cons (.slot 5) .nil))) .fls) (.isk false (.call j_is_run g_is_run (.cons (.slot 1) (.cons (.slot 3) .nil))) .tru)))
 .nil))))))))))
/-- _law_run: 0 _law_script, 1 _law_at, 2 _law_net_here, 3 _law_most, 4 _law_many, 5 _law_found, 6 _law_k, 7 _law_way -/
def Bk05__law_run (j__law_drawn : Nat) (g__law_drawn : List D → R D) : Ss := (.cons (.asn (.nm 4) (.call j__law_drawn g__law_drawn (.cons (.slot 0) (.cons (.slot 1) (.cons (.bin .add (.slot 3) (.cst (.int 1))) .nil)))))
 (.cons (.own 5 (.lst .nil))
 (.cons (.for (.nm 6) (.rg1 (.slot 4)) (.cons (.asn (.nm 7) (.idx (.idx (.idx (.slot 2) (.cst (.int 1))) (.call j__law_drawn g__law_drawn (.cons (.slot 0) (.cons (.bin .add (.bin .add (.slot 1) (.cst (.int 1))) (.bin .mul (.cst (.int 2)) (.slot 6))) (.cons (.blt .len (.cons (.idx (.slot 2) (.cst (.int 1))) .nil)) .nil))))) (.cst (.int 0))))
 (.cons (.app 5 (.tup (.cons (.slot 7) (.cons (.idx (.lst (.cons (.cst (.str "x")) (.cons (.cst (.str "y")) (.cons (.cst (.str "new")) .nil)))) (.call j__law_drawn g__law_drawn (.cons (.slot 0) (.cons (.bin .add (.bin .add (.slot 1) (.cst (.int 2))) (.bin .mul (.cst (.int 2)) (.slot 6))) (.cons (.cst (.int 3)) .nil))))) .nil))))
 .nil)))
 (.cons (.frz 5)
 (.cons (.ret (.slot 5))
 .nil)))))
/-- law: 0 _law_script, 1 _law_net_here, 2 _law_state_here, 3 _law_run_here, 4 _law_there, 5 _law_outs, 6 _law_way, 7 _law_row, 8 _law_one, 9 _law_out, 10 _law_name, 11 _law_marks, 12 _law_told, 13 _law_shown, 14 _law_k, 15 _law_push_here, 16 _law_length, 17 _law_place, 18 _law_mark, 19 _law_here, 20 _law_due, 21 _law_pipe -/
def Bk05_law (j__law_net : Nat) (g__law_net : List D → R D) (j__law_run : Nat) (g__law_run : List D → R D) (j__law_state : Nat) (g__law_state : List D → R D) (j__law_went : Nat) (g__law_went : List D → R D) (j_behind : Nat) (g_behind : List D → R D) (j_outs_of : Nat) (g_outs_of : List D → R D) (j_delay : Nat) (g_delay : List D → R D) (j__law_unlike : Nat) (g__law_unlike : List D → R D) (j_where : Nat) (g_where : List D → R D) (j_whence : Nat) (g_whence : List D → R D) (j__law_refused : Nat) (g__law_refused : List D → R D) : Ss := (.cons (.asn (.nm 1) (.call j__law_net g__law_net (.cons (.slot 0) (.cons (.cst (.int 10)) .nil))))
 (.cons (.par (.cons 2 false (.call j__law_state g__law_state (.cons (.slot 0) (.cons (.cst (.int 60)) (.cons (.slot 1) .nil)))) (.cons 3 false (.call j__law_run g__law_run (.cons (.slot 0) (.cons (.cst (.int 80)) (.cons (.slot 1) (.cons (.cst (.int 9)) .nil))))) .nil)))
 (.cons (.asn (.t2 (.nm 4) (.nm 5)) (.call j__law_went g__law_went (.cons (.slot 1) (.cons (.slot 2) (.cons (.slot 3) .nil)))))
 (.cons (.ife (.cmp .ne (.call j_behind g_behind (.cons (.slot 1) (.cons (.slot 2) (.cons (.slot 3) .nil)))) (.tup (.cons (.slot 4) (.cons (.slot 5) .nil)))) (.cons (.ret (.cst (.bool false)))
 .nil) .nil)
 (.cons (.for (.t2 (.nm 6) (.nm 7)) (.dat (.idx (.slot 1) (.cst (.int 1)))) (.cons (.ife (.cmp .ne (.call j_outs_of g_outs_of (.cons (.slot 1) (.cons (.slot 2) (.cons (.slot 3) (.cons (.slot 6) .nil))))) (.lc [8, 9] (.t2 (.nm 8) (.nm 9)) (.dat (.slot 5)) (.one (.cmp .eq (.slot 8) (.slot 6))) (.slot 9))) (.cons (.ret (.cst (.bool false)))
 .nil) .nil)
 (.cons (.ife (.cmp .ne (.call j_delay g_delay (.cons (.slot 1) (.cons (.slot 6) .nil))) (.blt .sum (.cons (.lc [10] (.nm 10) (.dat (.slot 7)) .nil (.dget (.of false (.idx (.slot 1) (.cst (.int 0)))) (.slot 10))) .nil))) (.cons (.ret (.cst (.bool false)))
 .nil) .nil)
 .nil)))
 (.cons (.asn (.nm 11) (.call j__law_unlike g__law_unlike (.cons (.slot 1) .nil)))
 (.cons (.asn (.t2 (.nm 12) (.nm 13)) (.call j__law_went g__law_went (.cons (.slot 1) (.cons (.slot 11) (.cons (.lc [14, 15] (.t2 (.nm 14) (.nm 15)) (.enu (.slot 3)) .nil (.tup (.cons (.idx (.slot 15) (.cst (.int 0))) (.cons (.slot 14) .nil)))) .nil)))))
 (.cons (.asn (.nm 9) (.lc [6, 8] (.t2 (.nm 6) (.nm 8)) (.dat (.slot 13)) .nil (.slot 8)))
 (.cons (.for (.t2 (.nm 14) (.t2 (.nm 10) (.nm 16))) (.enu (.idx (.slot 1) (.cst (.int 0)))) (.cons (.for (.nm 17) (.rg1 (.slot 16)) (.cons (.par (.cons 18 false (.idx (.idx (.slot 11) (.slot 14)) (.slot 17)) (.cons 19 false (.idx (.idx (.slot 12) (.slot 14)) (.slot 17)) .nil)))
 (.cons (.ife (.cmp .isin (.slot 18) (.slot 9)) (.cons (.asn (.nm 20) (.met .index (.slot 9) (.cons (.slot 18) .nil)))
 .nil) (.cons (.asn (.nm 20) (.idx (.lc [21, 7] (.t2 (.nm 21) (.nm 7)) (.zip (.idx (.slot 1) (.cst (.int 0))) (.slot 12)) (.one (.cmp .isin (.slot 18) (.slot 7))) (.tup (.cons (.idx (.slot 21) (.cst (.int 0))) (.cons (.met .index (.slot 7) (.cons (.slot 18) .nil)) .nil)))) (.cst (.int 0))))
 .nil))
 (.cons (.ife (.cmp .ne (.call j_where g_where (.cons (.slot 1) (.cons (.slot 3) (.cons (.tup (.cons (.slot 10) (.cons (.slot 17) .nil))) .nil)))) (.slot 20)) (.cons (.ret (.cst (.bool false)))
 .nil) .nil)
 (.cons (.ife (.isi (.slot 19) .str) (.cons (.asn (.nm 19) (.idx (.lc [21, 7] (.t2 (.nm 21) (.nm 7)) (.zip (.idx (.slot 1) (.cst (.int 0))) (.slot 11)) (.one (.cmp .isin (.slot 19) (.slot 7))) (.tup (.cons (.idx (.slot 21) (.cst (.int 0))) (.cons (.met .index (.slot 7) (.cons (.slot 19) .nil)) .nil)))) (.cst (.int 0))))
 .nil) .nil)
 (.cons (.ife (.cmp .ne (.call j_whence g_whence (.cons (.slot 1) (.cons (.slot 3) (.cons (.tup (.cons (.slot 10) (.cons (.slot 17) .nil))) .nil)))) (.slot 19)) (.cons (.ret (.cst (.bool false)))
 .nil) .nil)
 .nil))))))
 .nil))
 (.cons (.ret (.call j__law_refused g__law_refused (.cons (.slot 0) (.cons (.slot 1) (.cons (.slot 2) (.cons (.slot 3) .nil))))))
 .nil))))))))))
end Fp

set_option Elab.async false
set_option linter.all false
set_option maxRecDepth 100000
set_option maxHeartbeats 1000000
/-! runs.py, typed. -/
namespace Fp
open PySem L2
/-- a run: of each push its way and its slug -/
abbrev Run := List ((Str × List Str) × D)
def ePush (p : (Str × List Str) × D) : D := .tuple [.str p.1.1, p.2]
def eOut (o : Str × D) : D := .tuple [.str o.1, o.2]
def eRun (rs : Run) : D := .list (rs.map ePush)
def eOuts (os : List (Str × D)) : D := .list (os.map eOut)
abbrev GS' := (Str → List D) × List (Str × D)
def goS (s : GS') (p : (Str × List Str) × D) : GS' := ((pushF s.1 p.1.2 p.2).1, s.2 ++ [(p.1.1, (pushF s.1 p.1.2 p.2).2)])
def goF (f : Str → List D) (rs : Run) : GS' := rs.foldl goS (f, [])
structure ROk (N : Net) (rs : Run) : Prop where
  ws : ∀ p ∈ rs, p.1 ∈ N.W
  ln : rs.length ≤ 3000
def RNm (rs : Run) : Prop := ∀ p ∈ rs, isName p.2 = true
theorem goS_len : ∀ (rs : Run) (s : GS'), (rs.foldl goS s).2.length = s.2.length + rs.length
  | [], s => rfl
  | p :: rs, s => by rw [List.foldl_cons, goS_len rs, goS, List.length_append, List.length_cons]; simp; omega
theorem goF_len (f : Str → List D) (rs : Run) : (goF f rs).2.length = rs.length := by rw [goF, goS_len]; simp
theorem goS_F {N : Net} : ∀ (rs : Run) (s : GS'), FOk N s.1 → FOk N (rs.foldl goS s).1
  | [], s, h => h
  | p :: rs, s, h => goS_F rs _ (pushF_ok h p.2 p.1.2)
theorem goF_F {N : Net} {f : Str → List D} (h : FOk N f) (rs : Run) : FOk N (goF f rs).1 := goS_F rs _ h
theorem goS_S {N : Net} (hN : NOk N) : ∀ (rs : Run) (s : GS'), (∀ p ∈ rs, p.1 ∈ N.W) → RNm rs → SOk N s.1 → (∀ o ∈ s.2, o.1 ∈ N.ws ∧ isName o.2 = true) → SOk N (rs.foldl goS s).1 ∧ ∀ o ∈ (rs.foldl goS s).2, o.1 ∈ N.ws ∧ isName o.2 = true
  | [], s, _, _, h, k => ⟨h, k⟩
  | p :: rs, s, hw, hn, h, k => by
    have := push_S hN h (hn p List.mem_cons_self) (hN.rw _ (hw p List.mem_cons_self)).2.2.2
    refine goS_S hN rs _ (fun q hq => hw q (List.mem_cons_of_mem _ hq)) (fun q hq => hn q (List.mem_cons_of_mem _ hq)) this.1 fun o ho => ?_
    rcases List.mem_append.mp ho with ho | ho
    · exact k o ho
    · rw [List.mem_singleton] at ho
      subst ho
      exact ⟨List.mem_map.mpr ⟨p.1, hw p List.mem_cons_self, rfl⟩, this.2⟩
theorem goF_S {N : Net} (hN : NOk N) {f : Str → List D} (h : SOk N f) {rs : Run} (hw : ROk N rs) (hn : RNm rs) : SOk N (goF f rs).1 ∧ ∀ o ∈ (goF f rs).2, o.1 ∈ N.ws ∧ isName o.2 = true :=
  goS_S hN rs _ hw.ws hn h (fun o ho => nomatch ho)
def P_plain_run (g : List D → R D) : Prop := ∀ N, NOk N → ∀ f, FOk N f → ∀ rs, ROk N rs → g [eN N, eF N f, eRun rs] = .ok (.tuple [eF N (goF f rs).1, eOuts (goF f rs).2])
def isRun (N : Net) : D → Bool
  | .list xs => decide (xs.length ≤ 3000) && xs.all (isPush N)
  | _ => false
def P_is_run_of (g : List D → R D) : Prop := ∀ N, NOk N → ∀ d, sz d = true → g [eN N, d] = .ok (.bool (isRun N d))
def P_look_run (g : List D → R D) : Prop := ∀ N, NOk N → ∀ d, sz d = true → g [eN N, d] = if isRun N d = true then .ok .none else .ex "NoRun"
theorem eRun_is {N : Net} {rs : Run} (h : ROk N rs) (k : RNm rs) : isRun N (eRun rs) = true := by
  unfold eRun
  rw [isRun, List.length_map, decide_eq_true h.ln, List.all_map, Bool.true_and, List.all_eq_true]
  exact fun p hp => isPush_ok (h.ws p hp) (k p hp)
theorem eRun_Tm {N : Net} (hN : NOk N) {rs : Run} (h : ROk N rs) (k : RNm rs) : Tm 2 (eRun rs) := by
  refine Tm_list (by rw [List.length_map]; have := h.ln; omega) fun x hx => ?_
  obtain ⟨p, hp, rfl⟩ := List.mem_map.mp hx
  exact Tm_tuple (by simp) (two (Tm_name (hN.wm _ (List.mem_map.mpr ⟨p.1, h.ws p hp, rfl⟩)) _) (Tm_name (k p hp) _))
theorem eOuts_Tm {N : Net} (hN : NOk N) {os : List (Str × D)} (hl : os.length ≤ 3000) (h : ∀ o ∈ os, o.1 ∈ N.ws ∧ isName o.2 = true) : Tm 2 (eOuts os) := by
  refine Tm_list (by rw [List.length_map]; omega) fun x hx => ?_
  obtain ⟨p, hp, rfl⟩ := List.mem_map.mp hx
  exact Tm_tuple (by simp) (two (Tm_name (hN.wm _ (h p hp).1) _) (Tm_name (h p hp).2 _))
def P_behind (g : List D → R D) : Prop := (∀ N, NOk N → ∀ f, SOk N f → ∀ rs, ROk N rs → RNm rs → g [eN N, eF N f, eRun rs] = .ok (.tuple [eF N (goF f rs).1, eOuts (goF f rs).2])) ∧
  (∀ d st r, sz d = true → fine d = true → isNet d = false → g [d, st, r] = .ex "NoNet") ∧
  (∀ N, NOk N → ∀ st r, sz st = true → stOf (N.P.map eP) st = false → g [eN N, st, r] = .ex "NoState") ∧
  ∀ N, NOk N → ∀ f, SOk N f → ∀ r, sz r = true → isRun N r = false → g [eN N, eF N f, r] = .ex "NoRun"
def P_outs_of (g : List D → R D) : Prop := (∀ N, NOk N → ∀ f, SOk N f → ∀ rs, ROk N rs → RNm rs → ∀ w ∈ N.ws, g [eN N, eF N f, eRun rs, .str w] = .ok (.list (((goF f rs).2.filter fun o => decide (o.1 = w)).map (·.2)))) ∧
  (∀ d st r w, sz d = true → fine d = true → isNet d = false → g [d, st, r, w] = .ex "NoNet") ∧
  (∀ N, NOk N → ∀ st r w, sz st = true → stOf (N.P.map eP) st = false → g [eN N, st, r, w] = .ex "NoState") ∧
  (∀ N, NOk N → ∀ f, SOk N f → ∀ r w, sz r = true → isRun N r = false → g [eN N, eF N f, r, w] = .ex "NoRun") ∧
  ∀ N, NOk N → ∀ f, SOk N f → ∀ rs, ROk N rs → RNm rs → ∀ w, sz w = true → isIn N.ws w = false → g [eN N, eF N f, eRun rs, w] = .ex "NoWay"
def P_is_run (g : List D → R D) : Prop := (∀ N, NOk N → ∀ d, sz d = true → g [eN N, d] = .ok (.bool (isRun N d))) ∧ ∀ d r, sz d = true → fine d = true → isNet d = false → g [d, r] = .ex "NoNet"
/-- a pipe's length, by its name -/
def Net.len (N : Net) (n : Str) : Nat := ((N.P.find? fun p => decide (p.1 = n)).map (·.2)).getD 0
theorem len_of {N : Net} (h : NOk N) {p : Str × Nat} (hp : p ∈ N.P) : N.len p.1 = p.2 := by
  have : ∀ P : List (Str × Nat), (P.map (·.1)).Nodup → p ∈ P → ((P.find? fun q => decide (q.1 = p.1)).map (·.2)).getD 0 = p.2 := fun P => by
    induction P with
    | nil => exact fun _ h => nomatch h
    | cons q P ih =>
      intro hd hm
      have hd' := List.nodup_cons.mp hd
      rw [List.find?_cons]
      by_cases e : q.1 = p.1
      · rw [decide_eq_true e]
        rcases List.mem_cons.mp hm with h | h
        · subst h; rfl
        · exact absurd (List.mem_map.mpr ⟨p, h, e.symm⟩) hd'.1
      · rw [decide_eq_false e]
        rcases List.mem_cons.mp hm with h | h
        · subst h; exact absurd rfl e
        · exact ih hd'.2 h
  exact this N.P h.nd hp
def dP (N : Net) : List (D × D) := N.P.map fun p => (.str p.1, .int p.2)
theorem dP_of {N : Net} (h : NOk N) : dOf false (.tuple (N.P.map eP)) = .ok (dP N) := dOfMT (k := fun p : Str × Nat => p.1) (v := fun p => .int p.2) h.nd
theorem dP_get {N : Net} (h : NOk N) {n : Str} (hn : n ∈ N.ns) : dGet false (dP N) (.str n) = .ok (.int (N.len n)) := by
  obtain ⟨p, hp, rfl⟩ := List.mem_map.mp hn
  rw [len_of h hp]
  exact getM (k := fun p : Str × Nat => p.1) (v := fun p => .int p.2) h.nd hp
def P_delay (g : List D → R D) : Prop := (∀ N, NOk N → ∀ w ∈ N.W, g [eN N, .str w.1] = .ok (.int (w.2.map fun n => (N.len n : Int)).sum)) ∧
  (∀ d w, sz d = true → fine d = true → isNet d = false → g [d, w] = .ex "NoNet") ∧
  ∀ N, NOk N → ∀ w, sz w = true → isIn N.ws w = false → g [eN N, w] = .ex "NoWay"
section
variable {g1 g2 g3 g4 g5 : List D → R D} {j1 j2 j3 j4 j5 : Nat}
theorem S_plain_run (h1 : P_plain_pushed g1) : P_plain_run (runF 3 6 (B_plain_run j1 g1)) := fun N h f hf rs hr => by
  rw [run1 (np := 3) rfl]
  simp [B_plain_run, eRun]
  refine for_postN (Q := fun fl => fl.out = _) goS (fun i s env => (∃ s4 s5, env = [.val (eN N), .val (eF N s.1), .val (.list (rs.map ePush)), .own (.list (s.2.map eOut)), s4, s5]) ∧ FOk N s.1 ∧ s.2.length = i) (s := (f, [])) ⟨⟨_, _, rfl⟩, hf, by simp⟩ ?_ ?_
  · rintro i p hp s env ⟨⟨s4, s5, rfl⟩, ok, hl⟩
    have hi := (List.getElem?_eq_some_iff.mp hp).1
    have hln := hr.ln
    have hl2 : (s.2.map eOut).length < 16777216 := by rw [List.length_map]; omega
    simp [forF, ePush, h1 N h p.1 (hr.ws p (List.mem_of_getElem? hp)) s.1 ok p.2]
    rw [if_pos (by omega)]
    simp [goS, hl, eOut]
    exact pushF_ok ok p.2 p.1.2
  · rintro env ⟨⟨s4, s5, rfl⟩, ok, _⟩
    simp
    exact ⟨rfl, rfl⟩
theorem S_is_run_of (h1 : P_is_push_of g1) : P_is_run_of (runF 2 3 (B_is_run_of j1 g1)) := fun N h d hd => by
  rw [run1 (np := 2) rfl]
  cases d with
  | list xs =>
    have hs := hd
    rw [sz, Bool.and_eq_true, decide_eq_true_eq] at hs
    have hx : ∀ x ∈ xs, g1 [eN N, x] = .ok (.bool (isPush N x)) := fun x hx => h1 N h x (szAll_mem hs.2 hx)
    have hl : xs.length ≤ 16777216 := by omega
    simp +contextual [B_is_run_of, lcGo_raw, hx, hl, isRun, isTy, PyData.isList]
    congr 1
    exact decide_eq_decide.mpr (by omega)
  | _ => rfl
theorem S_look_run (h1 : P_is_run_of g1) : P_look_run (runF 2 2 (B_look_run j1 g1)) := fun N h d hd => by
  rw [run1 (np := 2) rfl]
  simp [B_look_run, h1 N h d hd]
  cases isRun N d <;> rfl
theorem S_behind (h1 : P_look_net g1) (h2 : P_look_state g2) (h3 : P_look_run g3) (h4 : P_plain_run g4) : P_behind (runF 3 3 (B_behind j1 g1 j2 g2 j3 g3 j4 g4)) := by
  refine ⟨fun N h f hf rs hr hn => ?_, fun d st r hd hdf hn => ?_, fun N h st r hs hb => ?_, fun N h f hf r hr hb => ?_⟩
  · rw [run1 (np := 3) rfl]
    simp [B_behind, h1.typed h, h2 N h _ (hf.sz h), hf.st, h3 N h _ (eRun_Tm h hr hn).2.2, eRun_is hr hn, h4 N h f (hf.fok h) rs hr]
  · rw [run1 (np := 3) rfl]
    simp [B_behind, h1 d hd hdf, hn]
  · rw [run1 (np := 3) rfl]
    simp [B_behind, h1.typed h, h2 N h _ hs, hb]
  · rw [run1 (np := 3) rfl]
    simp [B_behind, h1.typed h, h2 N h _ (hf.sz h), hf.st, h3 N h _ hr, hb]
theorem S_outs_of (h1 : P_look_net g1) (h2 : P_look_state g2) (h3 : P_look_run g3) (h4 : P_look_way g4) (h5 : P_plain_run g5) : P_outs_of (runF 4 6 (B_outs_of j1 g1 j2 g2 j3 g3 j4 g4 j5 g5)) := by
  refine ⟨fun N h f hf rs hr hn w hw => ?_, fun d st r w hd hdf hn => ?_, fun N h st r w hs hb => ?_, fun N h f hf r w hr hb => ?_, fun N h f hf rs hr hn w hw hb => ?_⟩
  · rw [run1 (np := 4) rfl]
    have ew : isIn N.ws (.str w) = true := decide_eq_true hw
    have hl : (goF f rs).2.length ≤ 16777216 := by rw [goF_len]; have := hr.ln; omega
    have es : ∀ a b : Str, dEq (.str a) (.str b) = .ok (decide (a = b)) := fun _ _ => rfl
    simp [B_outs_of, h1.typed h, h2 N h _ (hf.sz h), hf.st, h3 N h _ (eRun_Tm h hr hn).2.2, eRun_is hr hn, h5 N h f (hf.fok h) rs hr, h4 N h _ (Tm_name (h.wm w hw) 0).2.2, ew, eOuts, eOut, es, hl]
  · rw [run1 (np := 4) rfl]
    simp [B_outs_of, h1 d hd hdf, hn]
  · rw [run1 (np := 4) rfl]
    simp [B_outs_of, h1.typed h, h2 N h _ hs, hb]
  · rw [run1 (np := 4) rfl]
    simp [B_outs_of, h1.typed h, h2 N h _ (hf.sz h), hf.st, h3 N h _ hr, hb]
  · rw [run1 (np := 4) rfl]
    simp [B_outs_of, h1.typed h, h2 N h _ (hf.sz h), hf.st, h3 N h _ (eRun_Tm h hr hn).2.2, eRun_is hr hn, h4 N h _ hw, hb]
theorem S_is_run (h1 : P_look_net g1) (h2 : P_is_run_of g2) : P_is_run (runF 2 2 (B_is_run j1 g1 j2 g2)) := by
  refine ⟨fun N h d hd => ?_, fun d r hd hdf hn => ?_⟩
  · rw [run1 (np := 2) rfl]
    simp [B_is_run, h1.typed h, h2 N h d hd]
  · rw [run1 (np := 2) rfl]
    simp [B_is_run, h1 d hd hdf, hn]
theorem S_delay (h1 : P_look_net g1) (h2 : P_look_way g2) (h3 : P_row_of g3) : P_delay (runF 2 3 (B_delay j1 g1 j2 g2 j3 g3)) := by
  refine ⟨fun N h w hw => ?_, fun d w hd hdf hn => ?_, fun N h w hw hb => ?_⟩
  · rw [run1 (np := 2) rfl]
    have hwm : w.1 ∈ N.ws := List.mem_map.mpr ⟨w, hw, rfl⟩
    have ew : isIn N.ws (.str w.1) = true := decide_eq_true hwm
    have hl : w.2.length ≤ 16777216 := by have := (h.rw w hw).2.1; omega
    have hg : ∀ n ∈ w.2, dGet false (dP N) (.str n) = .ok (.int (N.len n)) := fun n hn => dP_get h ((h.rw w hw).2.2.2 n hn)
    simp +contextual [B_delay, h1.typed h, h2 N h _ (Tm_name (h.wm w.1 hwm) 0).2.2, ew, h3 N h w hw, eR, eN_0, dP_of h, hg, hl]
  · rw [run1 (np := 2) rfl]
    simp [B_delay, h1 d hd hdf, hn]
  · rw [run1 (np := 2) rfl]
    simp [B_delay, h1.typed h, h2 N h _ hw, hb]
end
end Fp

set_option Elab.async false
set_option linter.all false
set_option maxRecDepth 100000
set_option maxHeartbeats 1000000
/-! Spots: where slugs come to, and whence. -/
namespace Fp
open PySem L2
/-- a spot: a pipe's name, a place -/
abbrev Spot := Str × Nat
def eS (s : Spot) : D := .tuple [.str s.1, .int s.2]
def Net.spots (N : Net) : List Spot := N.P.flatMap fun p => (List.range p.2).map fun i => (p.1, i)
def isSpot (N : Net) : D → Bool
  | .tuple [x, k] => isIn N.ns x && isWhole k 0 ((N.len (strD x) : Int) - 1)
  | _ => false
theorem spot_of {N : Net} (h : NOk N) {d : D} (hd : isSpot N d = true) : ∃ s ∈ N.spots, d = eS s := by
  unfold isSpot at hd
  split at hd
  · rename_i x k
    rw [Bool.and_eq_true] at hd
    cases x <;> first | (cases hd.1; done) | skip
    rename_i n
    have hn : n ∈ N.ns := of_decide_eq_true hd.1
    obtain ⟨p, hp, rfl⟩ := List.mem_map.mp hn
    obtain ⟨i, rfl, h0, h1⟩ := whole_int hd.2
    obtain ⟨m, rfl⟩ := Int.eq_ofNat_of_zero_le h0
    simp only [strD, len_of h hp] at h1
    refine ⟨(p.1, m), List.mem_flatMap.mpr ⟨p, hp, List.mem_map.mpr ⟨m, ?_, rfl⟩⟩, rfl⟩
    rw [List.mem_range]
    have h1 : (m : Int) ≤ (p.2 : Int) - 1 := h1
    omega
  · cases hd
theorem mem_spots {N : Net} {s : Spot} : s ∈ N.spots ↔ ∃ p ∈ N.P, s.1 = p.1 ∧ s.2 < p.2 := by
  unfold Net.spots
  constructor
  · intro hs
    obtain ⟨p, hp, hm⟩ := List.mem_flatMap.mp hs
    obtain ⟨i, hi, rfl⟩ := List.mem_map.mp hm
    exact ⟨p, hp, rfl, List.mem_range.mp hi⟩
  · rintro ⟨p, hp, h1, h2⟩
    exact List.mem_flatMap.mpr ⟨p, hp, List.mem_map.mpr ⟨s.2, List.mem_range.mpr h2, by rw [← h1]⟩⟩
theorem isSpot_ok {N : Net} (h : NOk N) {s : Spot} (hs : s ∈ N.spots) : isSpot N (eS s) = true := by
  obtain ⟨p, hp, h1, h2⟩ := mem_spots.mp hs
  have hin : isIn N.ns (.str s.1) = true := decide_eq_true (by rw [h1]; exact List.mem_map.mpr ⟨p, hp, rfl⟩)
  have e : N.len s.1 = p.2 := by rw [h1]; exact len_of h hp
  have : isWhole (.int s.2) 0 ((N.len s.1 : Int) - 1) = true := by
    rw [e]
    simp [isWhole, PyData.isInt, PyData.isBool]
    omega
  show (isIn N.ns (.str s.1) && isWhole (.int s.2) 0 ((N.len s.1 : Int) - 1)) = true
  rw [this, hin]; rfl
theorem eS_Tm {N : Net} (h : NOk N) {s : Spot} (hs : s ∈ N.spots) : Tm 1 (eS s) := by
  obtain ⟨p, hp, h1, h2⟩ := mem_spots.mp hs
  exact Tm_tuple (by simp) (two (Tm_name (by rw [h1]; exact h.nm _ (List.mem_map.mpr ⟨p, hp, rfl⟩)) _) Tm_int)
/-- each slug told by its spot -/
def mkF (N : Net) (n : Str) : List D := (List.range (N.len n)).map fun i => eS (n, i)
/-- the run with its pushes' numbers for slugs -/
def numR (rs : Run) : Run := rs.zipIdx.map fun p => (p.1.1, .int (p.2 : Nat))
def trF (N : Net) (rs : Run) : GS' := goF (mkF N) (numR rs)
theorem numR_ok {N : Net} {rs : Run} (h : ROk N rs) : ROk N (numR rs) := by
  refine ⟨fun p hp => ?_, by simp [numR]; exact h.ln⟩
  obtain ⟨q, hq, rfl⟩ := List.mem_map.mp hp
  exact h.ws q.1 (List.fst_mem_of_mem_zipIdx hq)
theorem mkF_ok {N : Net} (h : NOk N) : FOk N (mkF N) := by
  constructor
  · intro n hn e
    obtain ⟨p, hp, rfl⟩ := List.mem_map.mp hn
    have h1 := (h.ln p hp).1
    have : (mkF N p.1).length = 0 := by rw [e]; rfl
    rw [mkF, List.length_map, List.length_range, len_of h hp] at this
    omega
  · intro n hn
    obtain ⟨p, hp, rfl⟩ := List.mem_map.mp hn
    have h1 := (h.ln p hp).2
    rw [mkF, List.length_map, List.length_range, len_of h hp]
    omega
theorem spots_len {N : Net} (h : NOk N) : N.spots.length ≤ 24 := by
  have : ∀ P : List (Str × Nat), (∀ p ∈ P, p.2 ≤ 4) → (P.flatMap fun p => (List.range p.2).map fun i => ((p.1, i) : Spot)).length ≤ 4 * P.length := fun P => by
    induction P with
    | nil => exact fun _ => Nat.zero_le _
    | cons p P ih =>
      intro hh
      have := ih fun q hq => hh q (List.mem_cons_of_mem _ hq)
      have := hh p List.mem_cons_self
      rw [List.flatMap_cons, List.length_append, List.length_map, List.length_range, List.length_cons]
      omega
  have := this N.P fun p hp => (h.ln p hp).2
  have := h.p6
  unfold Net.spots
  omega
def P_is_spot_of (g : List D → R D) : Prop := ∀ N, NOk N → ∀ d, sz d = true → g [eN N, d] = .ok (.bool (isSpot N d))
def P_look_spot (g : List D → R D) : Prop := ∀ N, NOk N → ∀ d, sz d = true → g [eN N, d] = if isSpot N d = true then .ok .none else .ex "NoSpot"
structure P_look_asked (g : List D → R D) : Prop where
  ok : ∀ N, NOk N → ∀ r s, sz r = true → isRun N r = true → sz s = true → isSpot N s = true → g [eN N, r, s] = .ok .none
  net : ∀ d r s, sz d = true → fine d = true → isNet d = false → g [d, r, s] = .ex "NoNet"
  run : ∀ N, NOk N → ∀ r s, sz r = true → isRun N r = false → g [eN N, r, s] = .ex "NoRun"
  spot : ∀ N, NOk N → ∀ r s, sz r = true → isRun N r = true → sz s = true → isSpot N s = false → g [eN N, r, s] = .ex "NoSpot"
def P_marked (g : List D → R D) : Prop := ∀ N, NOk N → g [eN N] = .ok (eF N (mkF N))
def P_traced (g : List D → R D) : Prop := ∀ N, NOk N → ∀ rs, ROk N rs → g [eN N, eRun rs] = .ok (.tuple [eF N (trF N rs).1, .list ((trF N rs).2.map (·.2))])
def P_spots_in (g : List D → R D) : Prop := ∀ N, NOk N → g [eN N] = .ok (.list (N.spots.map eS))
def atF (f : Str → List D) (s : Spot) : D := (f s.1)[s.2]?.getD .none
/-- rows as long as the pipes -/
def LOk (N : Net) (f : Str → List D) : Prop := ∀ p ∈ N.P, (f p.1).length = p.2
def P_places_of (g : List D → R D) : Prop := ∀ N, NOk N → ∀ f, LOk N f → g [eN N, eF N f] = .ok (.list (N.spots.map fun s => .tuple [eS s, atF f s]))
section
variable {g1 g2 g3 g4 g5 : List D → R D} {j1 j2 j3 j4 j5 : Nat}
theorem S_is_spot_of (h1 : P_pipes_in g1) (h2 : P_is_pair g2) (h3 : P_is_whole g3) : P_is_spot_of (runF 2 2 (B_is_spot_of j1 g1 j2 g2 j3 g3)) := fun N h d hd => by
  have h3' : ∀ d i j, g3 [d, .int i, .int j] = .ok (.bool (isWhole d i j)) := h3
  rw [run1 (np := 2) rfl]
  cases hp : isPair d with
  | false =>
    have : isSpot N d = false := by
      unfold isSpot
      split
      · rename_i x y
        cases hx : isIn N.ns x with
        | false => rfl
        | true =>
          have := isName_of_isIn h.nm hx
          simp [isPair, this] at hp
      · rfl
    simp [B_is_spot_of, h2 d hd, hp, this]
  | true =>
    obtain ⟨x, y, rfl, hx⟩ := pair_of hp
    rcases look_in (d := x) h.nm with ⟨e1, e2⟩ | ⟨s, rfl, e1, e2⟩
    · rw [hx] at e1; cases e1
    · by_cases hs : s ∈ N.ns
      · simp [B_is_spot_of, h2 _ hd, hp, h1 N h, in_strsL, isSpot, e2, hs, eN_0, dP_of h, dP_get h hs, h3', strD]
      · simp [B_is_spot_of, h2 _ hd, hp, h1 N h, in_strsL, isSpot, e2, hs]
theorem S_look_spot (h1 : P_is_spot_of g1) : P_look_spot (runF 2 2 (B_look_spot j1 g1)) := fun N h d hd => by
  rw [run1 (np := 2) rfl]
  simp [B_look_spot, h1 N h d hd]
  cases isSpot N d <;> rfl
theorem S_look_asked (h1 : P_look_net g1) (h2 : P_look_run g2) (h3 : P_look_spot g3) : P_look_asked (runF 3 3 (B_look_asked j1 g1 j2 g2 j3 g3)) := by
  refine ⟨fun N h r s hr hr1 hs hs1 => ?_, fun d r s hd hdf hn => ?_, fun N h r s hr hr1 => ?_, fun N h r s hr hr1 hs hs1 => ?_⟩
  · rw [run1 (np := 3) rfl]
    simp [B_look_asked, h1.typed h, h2 N h _ hr, hr1, h3 N h _ hs, hs1]
  · rw [run1 (np := 3) rfl]
    simp [B_look_asked, h1 d hd hdf, hn]
  · rw [run1 (np := 3) rfl]
    simp [B_look_asked, h1.typed h, h2 N h _ hr, hr1]
  · rw [run1 (np := 3) rfl]
    simp [B_look_asked, h1.typed h, h2 N h _ hr, hr1, h3 N h _ hs, hs1]
theorem S_marked : P_marked (runF 1 4 B_marked) := fun N h => by
  rw [run1 (np := 1) rfl]
  have h6 := h.p6
  have hl : N.P.length ≤ 16777216 := by omega
  have hr : ∀ p ∈ N.P, rng (.int 0) (.int (p.2 : Nat)) = .ok (rgD p.2) := fun p hp => rng_nat (by have := (h.ln p hp).2; omega)
  have hlr : ∀ p ∈ N.P, p.2 ≤ 16777216 := fun p hp => by have := (h.ln p hp).2; omega
  simp +contextual -implicitDefEqProofs [B_marked, eN_0, eP, hl, hr, rgD, hlr, -rng_nat]
  unfold eF Net.ns
  rw [List.map_map]
  congr 1
  refine List.map_congr_left fun p hp => ?_
  simp [mkF, len_of h hp, eS]
theorem S_traced (h1 : P_plain_run g1) (h2 : P_marked g2) : P_traced (runF 2 8 (B_traced j1 g1 j2 g2)) := fun N h rs hr => by
  rw [run1 (np := 2) rfl]
  have hl : rs.length ≤ 16777216 := by have := hr.ln; omega
  have hl2 : (trF N rs).2.length ≤ 16777216 := by rw [trF, goF_len, numR, List.length_map, List.length_zipIdx]; exact hl
  have hl3 : rs.zipIdx.length ≤ 16777216 := by rw [List.length_zipIdx]; exact hl
  have e : PyData.list (rs.zipIdx.map fun p => .tuple [.str p.1.1.1, .int (p.2 : Nat)]) = eRun (numR rs) := by
    unfold eRun numR
    rw [List.map_map]
    rfl
  have h1' := h1 N h (mkF N) (mkF_ok h) (numR rs) (numR_ok hr)
  have e2 : eRun rs = .list (rs.map ePush) := rfl
  simp [B_traced, h2 N h, e2, ePush, hl, hl3, e, h1']
  simp [eOuts, eOut]
  have e3 : goF (mkF N) (numR rs) = trF N rs := rfl
  rw [e3]
  simp [hl2]
theorem S_spots_in : P_spots_in (runF 1 4 B_spots_in) := fun N h => by
  rw [run1 (np := 1) rfl]
  have h6 := h.p6
  have hr : ∀ p ∈ N.P, rng (.int 0) (.int (p.2 : Nat)) = .ok (rgD p.2) := fun p hp => rng_nat (by have := (h.ln p hp).2; omega)
  have hsl : N.spots.length ≤ 16777216 := by have := spots_len h; omega
  have e : (N.P.flatMap fun p => (List.range p.2).map fun (i : Nat) => PyData.tuple [.str p.1, .int i]) = N.spots.map eS := by
    unfold Net.spots
    rw [List.map_flatMap]
    simp [eS, Function.comp_def]
  simp +contextual -implicitDefEqProofs [B_spots_in, eN_0, eP, hr, rgD, -rng_nat, e, hsl]
theorem S_places_of (h1 : P_spots_in g1) (h2 : P_pipes_in g2) : P_places_of (runF 2 3 (B_places_of j1 g1 j2 g2)) := fun N h f hf => by
  rw [run1 (np := 2) rfl]
  have hsl : N.spots.length ≤ 16777216 := by have := spots_len h; omega
  have hi : ∀ s ∈ N.spots, dMet .index (.list (N.ns.map PyData.str)) [.str s.1] = .ok (.int (N.ns.idxOf s.1 : Nat)) := fun s hs => by
    obtain ⟨p, hp, e1, e2⟩ := mem_spots.mp hs
    exact idx_strs (by rw [e1]; exact List.mem_map.mpr ⟨p, hp, rfl⟩)
  have ha : ∀ s ∈ N.spots, dIdx (eF N f) (.int (N.ns.idxOf s.1 : Nat)) = .ok (.tuple (f s.1)) := fun s hs => by
    obtain ⟨p, hp, e1, e2⟩ := mem_spots.mp hs
    exact idxT_nat (map_at (fun n => PyData.tuple (f n)) (by rw [e1]; exact List.mem_map.mpr ⟨p, hp, rfl⟩))
  have hb : ∀ s ∈ N.spots, dIdx (.tuple (f s.1)) (.int (s.2 : Nat)) = .ok (atF f s) := fun s hs => by
    obtain ⟨p, hp, e1, e2⟩ := mem_spots.mp hs
    have hl := hf p hp
    have : s.2 < (f s.1).length := by rw [e1, hl]; exact e2
    rw [atF]
    exact idxT_nat (by rw [List.getElem?_eq_getElem this]; rfl)
  simp +contextual -implicitDefEqProofs [B_places_of, h1 N h, h2 N h, eS, hi, ha, hb, hsl]
end
end Fp

set_option Elab.async false
set_option linter.all false
set_option maxRecDepth 100000
set_option maxHeartbeats 1000000
/-! where, whence. -/
namespace Fp
open PySem L2
/-! ### dicts by any keys -/
section
variable {α : Type}
theorem pairsG {t : Bool} {k v : α → D} : ∀ {xs : List α}, (∀ x ∈ xs, okK t (k x) = true) → pairsD t (xs.map fun x => .tuple [k x, v x]) = .ok (xs.map fun x => (k x, v x))
  | [], _ => rfl
  | x :: xs, h => by
    rw [List.map_cons, pairsD, if_pos (h x List.mem_cons_self), pairsG fun y hy => h y (List.mem_cons_of_mem _ hy)]
    rfl
/-- no two keys alike -/
def KD (k : α → D) (xs : List α) : Prop := xs.Pairwise fun x y => kEq (k x) (k y) = false
theorem mergeG {k v : α → D} : ∀ (xs ys : List α), KD k (xs ++ ys) → dMerge (xs.map fun x => (k x, v x)) (ys.map fun x => (k x, v x)) = (xs ++ ys).map fun x => (k x, v x)
  | xs, [], _ => by rw [List.append_nil]; rfl
  | xs, y :: ys, hd => by
    have e : (xs.map fun x => ((k x, v x) : D × D)).any (fun p => kEq p.1 (k y)) = false := by
      rw [List.any_eq_false]
      intro p hp
      obtain ⟨x, hx, rfl⟩ := List.mem_map.mp hp
      have := (List.pairwise_append.mp hd).2.2 x hx y List.mem_cons_self
      simp [this]
    have ih := mergeG (k := k) (v := v) (xs ++ [y]) ys (by rw [List.append_assoc]; exact hd)
    rw [List.append_assoc] at ih
    rw [dMerge, List.map_cons, List.foldl_cons, dStore, if_neg (by rw [e]; simp)]
    rw [dMerge, List.map_append] at ih
    exact ih
theorem dOfG {t : Bool} {k v : α → D} {xs : List α} (h : ∀ x ∈ xs, okK t (k x) = true) (hd : KD k xs) : dOf t (.list (xs.map fun x => .tuple [k x, v x])) = .ok (xs.map fun x => (k x, v x)) := by
  rw [dOf, pairsG h, R.bind_ok]
  exact congrArg R.ok (mergeG (k := k) (v := v) [] xs (by simpa using hd))
theorem findG {k v : α → D} : ∀ {xs : List α}, KD k xs → ∀ {x : α}, x ∈ xs → kEq (k x) (k x) = true → dFind (xs.map fun x => (k x, v x)) (k x) = some (v x)
  | y :: xs, hd, x, hx, hs => by
    have hd' := List.pairwise_cons.mp hd
    rw [dFind, List.map_cons, List.find?_cons]
    rcases List.mem_cons.mp hx with h | h
    · subst h
      simp [hs]
    · have e := hd'.1 x h
      have ih := findG (k := k) (v := v) hd'.2 h hs
      rw [dFind] at ih
      simp [e]
      simpa using ih
theorem getG {t : Bool} {k v : α → D} {xs : List α} (h : ∀ x ∈ xs, okK t (k x) = true) (hd : KD k xs) {x : α} (hx : x ∈ xs) (hs : kEq (k x) (k x) = true) : dGet t (xs.map fun x => (k x, v x)) (k x) = .ok (v x) := by
  rw [dGet, if_pos (h x hx), findG hd hx hs]; rfl
/-- the first one of those that are so -/
theorem idx0_filter {xs : List α} {p : α → Bool} {g : α → D} : dIdx (.list ((xs.filter p).map g)) (.int 0) = ofO ((xs.find? p).map g) := by
  rw [← List.head?_filter]
  cases xs.filter p with
  | nil => rfl
  | cons x r => exact dIdxL0
end
theorem kEq_spot (s t : Spot) : kEq (eS s) (eS t) = decide (s = t) := by
  show decide (NestedKey.tup [.text s.1, .num s.2] = .tup [.text t.1, .num t.2]) = _
  apply decide_eq_decide.mpr
  constructor
  · intro h
    simp at h
    exact Prod.ext h.1 (by have := h.2; omega)
  · rintro rfl; rfl
theorem okK_spot (s : Spot) : okK true (eS s) = true := by
  have e : nkey (eS s) = some (.tup [.text s.1, .num s.2]) := rfl
  unfold eS at e ⊢
  rw [okK, e]
  rfl
theorem spots_nd {N : Net} (h : NOk N) : N.spots.Nodup := by
  have : ∀ P : List (Str × Nat), (P.map (·.1)).Nodup → (P.flatMap fun p => (List.range p.2).map fun i => ((p.1, i) : Spot)).Nodup := fun P => by
    induction P with
    | nil => exact fun _ => List.nodup_nil
    | cons p P ih =>
      intro hd
      have hd' := List.nodup_cons.mp hd
      rw [List.flatMap_cons]
      refine List.nodup_append.mpr ⟨?_, ih hd'.2, ?_⟩
      · refine List.Pairwise.map _ (fun a b hab e => hab ?_) List.nodup_range
        exact (Prod.mk.inj e).2
      · intro a ha b hb e
        subst e
        obtain ⟨i, _, rfl⟩ := List.mem_map.mp ha
        obtain ⟨q, hq, hm⟩ := List.mem_flatMap.mp hb
        obtain ⟨j, _, e⟩ := List.mem_map.mp hm
        exact hd'.1 (List.mem_map.mpr ⟨q, hq, (Prod.mk.inj e).1⟩)
  exact this N.P h.nd
theorem spots_KD {N : Net} (h : NOk N) : KD eS N.spots := by
  refine List.Pairwise.imp (fun {a b} hab => ?_) (spots_nd h)
  rw [kEq_spot, decide_eq_false hab]
/-! ### what stays of rows and slugs -/
theorem stepF_L {N : Net} {s : PS} {n : Str} (h : NOk N) (hn : n ∈ N.ns) (k : LOk N s.1) : LOk N (stepF s n).1 := by
  obtain ⟨q, hq, rfl⟩ := List.mem_map.mp hn
  intro p hp
  show (if p.1 = q.1 then s.2 :: (s.1 q.1).dropLast else s.1 p.1).length = _
  split
  · rename_i e
    have h1 := k p hp
    rw [e] at h1
    have := (h.ln p hp).1
    rw [List.length_cons, List.length_dropLast]
    omega
  · exact k p hp
theorem pushF_L {N : Net} (h : NOk N) {row : List Str} (hr : ∀ n ∈ row, n ∈ N.ns) : ∀ {s : PS}, LOk N s.1 → LOk N (row.foldl stepF s).1 := by
  induction row with
  | nil => exact fun h => h
  | cons n row ih => exact fun {s} k => ih (fun m hm => hr m (List.mem_cons_of_mem _ hm)) (stepF_L h (hr n List.mem_cons_self) k)
theorem goS_L {N : Net} (h : NOk N) : ∀ {rs : Run} {s : GS'}, (∀ p ∈ rs, p.1 ∈ N.W) → LOk N s.1 → LOk N (rs.foldl goS s).1
  | [], s, _, k => k
  | p :: rs, s, hw, k => goS_L h (rs := rs) (fun q hq => hw q (List.mem_cons_of_mem _ hq)) (pushF_L h (h.rw _ (hw p List.mem_cons_self)).2.2.2 k)
/-- all slugs of the rows are so -/
def VA (V : D → Prop) (N : Net) (f : Str → List D) : Prop := ∀ n ∈ N.ns, ∀ x ∈ f n, V x
theorem stepF_V {V : D → Prop} {N : Net} {s : PS} {n : Str} (hn : n ∈ N.ns) (hf : FOk N s.1) (k : VA V N s.1) (hx : V s.2) : VA V N (stepF s n).1 ∧ V (stepF s n).2 := by
  refine ⟨fun m hm x hx' => ?_, k n hn _ (List.mem_of_getLast? (lastD_ok (hf.ne n hn)))⟩
  have hx' : x ∈ (if m = n then s.2 :: (s.1 n).dropLast else s.1 m) := hx'
  split at hx'
  · rcases List.mem_cons.mp hx' with rfl | h'
    · exact hx
    · exact k n hn x (List.dropLast_subset _ h')
  · exact k m hm x hx'
theorem pushF_V {V : D → Prop} {N : Net} {row : List Str} (hr : ∀ n ∈ row, n ∈ N.ns) : ∀ {s : PS}, FOk N s.1 → VA V N s.1 → V s.2 → VA V N (row.foldl stepF s).1 ∧ V (row.foldl stepF s).2 := by
  induction row with
  | nil => exact fun _ h k => ⟨h, k⟩
  | cons n row ih => exact fun {s} hf h k => have := stepF_V (hr n List.mem_cons_self) hf h k; ih (fun m hm => hr m (List.mem_cons_of_mem _ hm)) (stepF_ok hf) this.1 this.2
theorem goS_V {V : D → Prop} {N : Net} (h : NOk N) : ∀ {rs : Run} {s : GS'}, (∀ p ∈ rs, p.1 ∈ N.W) → (∀ p ∈ rs, V p.2) → FOk N s.1 → VA V N s.1 → (∀ o ∈ s.2, V o.2) → VA V N (rs.foldl goS s).1 ∧ ∀ o ∈ (rs.foldl goS s).2, V o.2
  | [], s, _, _, _, k, ko => ⟨k, ko⟩
  | p :: rs, s, hw, hv, hf, k, ko => by
    have hr := (h.rw _ (hw p List.mem_cons_self)).2.2.2
    have := pushF_V (V := V) (N := N) hr (s := (s.1, p.2)) hf k (hv p List.mem_cons_self)
    refine goS_V h (rs := rs) (fun q hq => hw q (List.mem_cons_of_mem _ hq)) (fun q hq => hv q (List.mem_cons_of_mem _ hq)) (pushF_ok hf p.2 p.1.2) this.1 fun o ho => ?_
    rcases List.mem_append.mp ho with ho | ho
    · exact ko o ho
    · rw [List.mem_singleton] at ho
      subst ho
      exact this.2
/-- a spot, or a push's number -/
def VOk (N : Net) (x : D) : Prop := (∃ s ∈ N.spots, x = eS s) ∨ ∃ k : Nat, x = .int k
theorem VOk.Tm {N : Net} (h : NOk N) {x : D} (hx : VOk N x) : Tm 1 x := by
  rcases hx with ⟨s, hs, rfl⟩ | ⟨k, rfl⟩
  · exact eS_Tm h hs
  · exact Tm_int
theorem mkF_V {N : Net} (h : NOk N) : VA (VOk N) N (mkF N) := by
  intro n hn x hx
  obtain ⟨p, hp, rfl⟩ := List.mem_map.mp hn
  obtain ⟨i, hi, rfl⟩ := List.mem_map.mp hx
  rw [len_of h hp, List.mem_range] at hi
  exact .inl ⟨(p.1, i), mem_spots.mpr ⟨p, hp, rfl, hi⟩, rfl⟩
theorem mkF_L {N : Net} (h : NOk N) : LOk N (mkF N) := by
  intro p hp
  rw [mkF, List.length_map, List.length_range, len_of h hp]
theorem trF_V {N : Net} (h : NOk N) {rs : Run} (hr : ROk N rs) : VA (VOk N) N (trF N rs).1 ∧ ∀ o ∈ (trF N rs).2, VOk N o.2 :=
  goS_V h (numR_ok hr).ws (fun p hp => by obtain ⟨q, _, rfl⟩ := List.mem_map.mp hp; exact .inr ⟨_, rfl⟩) (mkF_ok h) (mkF_V h) fun o ho => nomatch ho
theorem trF_L {N : Net} (h : NOk N) {rs : Run} (hr : ROk N rs) : LOk N (trF N rs).1 := goS_L h (numR_ok hr).ws (mkF_L h)
theorem atF_V {N : Net} {V : D → Prop} {f : Str → List D} (k : VA V N f) (l : LOk N f) {s : Spot} (hs : s ∈ N.spots) : V (atF f s) := by
  obtain ⟨p, hp, e1, e2⟩ := mem_spots.mp hs
  have hl := l p hp
  have : s.2 < (f s.1).length := by rw [e1, hl]; exact e2
  rw [atF, List.getElem?_eq_getElem this]
  exact k s.1 (by rw [e1]; exact List.mem_map.mpr ⟨p, hp, rfl⟩) _ (List.getElem_mem _)
/-- where a spot's slug comes to -/
def whereR (N : Net) (rs : Run) (s : Spot) : R D := match PySem.SeqAt.dataPlace ((trF N rs).2.map (·.2)) (eS s) with
  | some j => .ok (.int (j : Nat))
  | none => ofO ((N.spots.find? fun s' => PyData.eqv (atF (trF N rs).1 s') (eS s)).map eS)
structure P_asked (T : Net → Run → Spot → R D) (g : List D → R D) : Prop where
  ok : ∀ N, NOk N → ∀ rs, ROk N rs → RNm rs → ∀ s ∈ N.spots, g [eN N, eRun rs, eS s] = T N rs s
  net : ∀ d r s, sz d = true → fine d = true → isNet d = false → g [d, r, s] = .ex "NoNet"
  run : ∀ N, NOk N → ∀ r s, sz r = true → isRun N r = false → g [eN N, r, s] = .ex "NoRun"
  spot : ∀ N, NOk N → ∀ r s, sz r = true → isRun N r = true → sz s = true → isSpot N s = false → g [eN N, r, s] = .ex "NoSpot"
def P_where := P_asked whereR
def P_whence := P_asked fun N rs s => .ok (atF (trF N rs).1 s)
theorem outs_fine {N : Net} (h : NOk N) {rs : Run} (hr : ROk N rs) : fine (.list ((trF N rs).2.map (·.2))) = true := by
  refine Tm_fine (Tm_list (k := 1) ?_ fun x hx => ?_) (by omega)
  · rw [List.length_map, trF, goF_len, numR, List.length_map, List.length_zipIdx]
    have := hr.ln
    omega
  · obtain ⟨o, ho, rfl⟩ := List.mem_map.mp hx
    exact ((trF_V h hr).2 o ho).Tm h
section
variable {g1 g2 g3 g4 g5 : List D → R D} {j1 j2 j3 j4 j5 : Nat}
theorem S_where (h1 : P_look_asked g1) (h2 : P_traced g2) (h3 : P_places_of g3) : P_where (runF 3 7 (B_where j1 g1 j2 g2 j3 g3)) := by
  refine ⟨fun N h rs hr hn s hs => ?_, fun d r s hd hdf hn => ?_, fun N h r s hr hr1 => ?_, fun N h r s hr hr1 hs hs1 => ?_⟩
  · rw [run1 (np := 3) rfl]
    have ha := h1.ok N h _ (eS s) (eRun_Tm h hr hn).2.2 (eRun_is hr hn) (eS_Tm h hs).2.2 (isSpot_ok h hs)
    have hf := outs_fine h hr
    have hsf : fine (eS s) = true := Tm_fine (eS_Tm h hs) (by omega)
    have hin : dIn (eS s) (.list ((trF N rs).2.map (·.2))) = .ok (((trF N rs).2.map (·.2)).any fun z => PyData.eqv z (eS s)) := by
      rw [dIn, hf, hsf]; rfl
    have hix : dMet .index (.list ((trF N rs).2.map (·.2))) [eS s] = (ofO (PySem.SeqAt.dataPlace ((trF N rs).2.map (·.2)) (eS s))).bind fun j => .ok (.int (j : Nat)) := by
      rw [dMet, hf, hsf]; rfl
    have hpl := h3 N h _ (trF_L h hr)
    have hsl : N.spots.length ≤ 16777216 := by have := spots_len h; omega
    have heq : ∀ s' ∈ N.spots, dEq (atF (trF N rs).1 s') (eS s) = .ok (PyData.eqv (atF (trF N rs).1 s') (eS s)) := fun s' hs' =>
      dEq_ok (Tm_fine ((atF_V (trF_V h hr).1 (trF_L h hr) hs').Tm h) (by omega)) hsf
    cases hp : PySem.SeqAt.dataPlace ((trF N rs).2.map (·.2)) (eS s) with
    | some j =>
      have : (((trF N rs).2.map (·.2)).any fun z => PyData.eqv z (eS s)) = true := by
        obtain ⟨hj, e, _⟩ := List.findIdx?_eq_some_iff_getElem.mp hp
        exact List.any_eq_true.mpr ⟨_, List.getElem_mem _, e⟩
      rw [this] at hin
      rw [hp] at hix
      rw [whereR, hp]
      simp [B_where, ha, h2 N h rs hr, hin, hix, ofO]
    | none =>
      have : (((trF N rs).2.map (·.2)).any fun z => PyData.eqv z (eS s)) = false := by
        rw [List.any_eq_false]
        exact fun x hx => by
          have := List.findIdx?_eq_none_iff.mp hp x hx
          simp [this]
      rw [this] at hin
      rw [whereR, hp]
      simp +contextual -implicitDefEqProofs [B_where, ha, h2 N h rs hr, hin, hpl, heq, hsl, idx0_filter]
      cases ofO ((N.spots.find? fun s' => PyData.eqv (atF (trF N rs).1 s') (eS s)).map eS) <;> rfl
  · rw [run1 (np := 3) rfl]
    simp [B_where, h1.net d r s hd hdf hn]
  · rw [run1 (np := 3) rfl]
    simp [B_where, h1.run N h r s hr hr1]
  · rw [run1 (np := 3) rfl]
    simp [B_where, h1.spot N h r s hr hr1 hs hs1]
theorem S_whence (h1 : P_look_asked g1) (h2 : P_places_of g2) (h3 : P_traced g3) : P_whence (runF 3 3 (B_whence j1 g1 j2 g2 j3 g3)) := by
  refine ⟨fun N h rs hr hn s hs => ?_, fun d r s hd hdf hn => ?_, fun N h r s hr hr1 => ?_, fun N h r s hr hr1 hs hs1 => ?_⟩
  · rw [run1 (np := 3) rfl]
    have ha := h1.ok N h _ (eS s) (eRun_Tm h hr hn).2.2 (eRun_is hr hn) (eS_Tm h hs).2.2 (isSpot_ok h hs)
    have hpl := h2 N h _ (trF_L h hr)
    have hd := dOfG (t := true) (k := eS) (v := fun s => atF (trF N rs).1 s) (xs := N.spots) (fun s _ => okK_spot s) (spots_KD h)
    have hg := getG (t := true) (k := eS) (v := fun s => atF (trF N rs).1 s) (xs := N.spots) (fun s _ => okK_spot s) (spots_KD h) hs (by rw [kEq_spot]; simp)
    simp [B_whence, ha, h3 N h rs hr, hpl, hd, hg]
  · rw [run1 (np := 3) rfl]
    simp [B_whence, h1.net d r s hd hdf hn]
  · rw [run1 (np := 3) rfl]
    simp [B_whence, h1.run N h r s hr hr1]
  · rw [run1 (np := 3) rfl]
    simp [B_whence, h1.spot N h r s hr hr1 hs hs1]
end
end Fp

set_option Elab.async false
set_option linter.all false
set_option maxRecDepth 100000
set_option maxHeartbeats 1000000
/-! The laws' own going, and unlike slugs. -/
namespace Fp
open PySem L2
def P__law_went (g : List D → R D) : Prop := ∀ N, NOk N → ∀ f, FOk N f → ∀ rs, ROk N rs → g [eN N, eF N f, eRun rs] = .ok (.tuple [eF N (goF f rs).1, eOuts (goF f rs).2])
section
variable {g1 g2 g3 g4 g5 : List D → R D} {j1 j2 j3 j4 j5 : Nat}
theorem S__law_went (h1 : P__law_push g1) : P__law_went (runF 3 7 (B__law_went j1 g1)) := fun N h f hf rs hr => by
  rw [run1 (np := 3) rfl]
  simp [B__law_went, eRun]
  refine for_postN (Q := fun fl => fl.out = _) goS (fun i s env => (∃ s4 s5 s6, env = [.val (eN N), .val (eF N s.1), .val (.list (rs.map ePush)), .own (.list (s.2.map eOut)), s4, s5, s6]) ∧ FOk N s.1 ∧ s.2.length = i) (s := (f, [])) ⟨⟨_, _, _, rfl⟩, hf, by simp⟩ ?_ ?_
  · rintro i p hp s env ⟨⟨s4, s5, s6, rfl⟩, ok, hl⟩
    have hi := (List.getElem?_eq_some_iff.mp hp).1
    have hln := hr.ln
    simp [forF, ePush, (h1 N h p.1 (hr.ws p (List.mem_of_getElem? hp)) s.1 ok p.2).1]
    rw [if_pos (by omega)]
    simp [goS, hl, eOut]
    exact pushF_ok ok p.2 p.1.2
  · rintro env ⟨⟨s4, s5, s6, rfl⟩, ok, _⟩
    simp
    exact ⟨rfl, rfl⟩
end
/-! ### unlike slugs -/
def uS (k : Nat) : Str := "u" ++ strD (strAt SMALL k)
def uD (k : Nat) : D := .str (uS k)
theorem uS_inj : ∀ i, i < 26 → ∀ j, j < 26 → uS i = uS j → i = j := by decide +kernel
theorem uS_name : ∀ i, i < 26 → isName (.str (uS i)) = true := by decide +kernel
def unAt : List (Str × Nat) → Nat → Str → List D
  | [], _, _ => []
  | p :: P, k, n => if p.1 = n then (List.range p.2).map fun i => uD (k + i) else unAt P (k + p.2) n
def unF (N : Net) (n : Str) : List D := unAt N.P 0 n
def totP (P : List (Str × Nat)) : Nat := (P.map (·.2)).sum
theorem unAt_all : ∀ (P : List (Str × Nat)) (k : Nat), (P.map (·.1)).Nodup → (P.map fun p => unAt P k p.1).flatten = (List.range (totP P)).map fun j => uD (k + j)
  | [], _, _ => rfl
  | p :: P, k, hd => by
    have hd' := List.nodup_cons.mp hd
    have e : (P.map fun q => unAt (p :: P) k q.1) = P.map fun q => unAt P (k + p.2) q.1 := List.map_congr_left fun q hq => by
      rw [unAt, if_neg fun e => hd'.1 (List.mem_map.mpr ⟨q, hq, e.symm⟩)]
    rw [List.map_cons, List.flatten_cons, e, unAt_all P _ hd'.2, unAt, if_pos rfl]
    have : totP (p :: P) = p.2 + totP P := rfl
    rw [this, List.range_add, List.map_append, List.map_map]
    congr 1
    refine List.map_congr_left fun i _ => ?_
    show uD (k + p.2 + i) = uD (k + (p.2 + i))
    rw [Nat.add_assoc]
theorem unAt_len : ∀ (P : List (Str × Nat)) (k : Nat), (P.map (·.1)).Nodup → ∀ p ∈ P, (unAt P k p.1).length = p.2
  | q :: P, k, hd, p, hp => by
    have hd' := List.nodup_cons.mp hd
    rw [unAt]
    rcases List.mem_cons.mp hp with rfl | hp
    · rw [if_pos rfl, List.length_map, List.length_range]
    · rw [if_neg fun e => hd'.1 (List.mem_map.mpr ⟨p, hp, e.symm⟩)]
      exact unAt_len P _ hd'.2 p hp
theorem unAt_none : ∀ (P : List (Str × Nat)) (k : Nat) (n : Str), n ∉ P.map (·.1) → unAt P k n = []
  | [], _, _, _ => rfl
  | q :: P, k, n, h => by
    rw [unAt, if_neg fun e => h (by rw [← e]; simp), unAt_none P _ n fun e => h (List.mem_cons_of_mem _ e)]
def P__law_unlike (g : List D → R D) : Prop := ∀ N, NOk N → g [eN N] = .ok (eF N (unF N))
def unS (s : List D × Nat) (p : Str × Nat) : List D × Nat := (s.1 ++ [.tuple ((List.range p.2).map fun i => uD (s.2 + i))], s.2 + p.2)
theorem unS_all : ∀ (P : List (Str × Nat)) (s : List D × Nat), (P.map (·.1)).Nodup → (P.foldl unS s).1 = s.1 ++ P.map fun p => .tuple (unAt P s.2 p.1)
  | [], s, _ => by simp
  | p :: P, s, hd => by
    have hd' := List.nodup_cons.mp hd
    rw [List.foldl_cons, unS_all P _ hd'.2, unS, List.append_assoc]
    congr 1
    rw [List.map_cons, unAt, if_pos rfl]
    refine congrArg (List.cons _) (List.map_congr_left fun q hq => ?_)
    rw [unAt, if_neg fun e => hd'.1 (List.mem_map.mpr ⟨q, hq, e.symm⟩)]
theorem tot_le {N : Net} (h : NOk N) : totP N.P ≤ 24 := by
  have : ∀ P : List (Str × Nat), (∀ p ∈ P, p.2 ≤ 4) → totP P ≤ 4 * P.length := fun P => by
    induction P with
    | nil => exact fun _ => Nat.zero_le _
    | cons p P ih =>
      intro hh
      have h1 := ih fun q hq => hh q (List.mem_cons_of_mem _ hq)
      have h2 := hh p List.mem_cons_self
      have : totP (p :: P) = p.2 + totP P := rfl
      rw [this, List.length_cons]
      omega
  have h1 := this N.P fun p hp => (h.ln p hp).2
  have := h.p6
  omega
theorem take_sum : ∀ (P : List (Str × Nat)) (i : Nat) (p : Str × Nat), P[i]? = some p → totP (P.take i) + p.2 ≤ totP P
  | q :: P, 0, p, h => by
    cases h
    have : totP (q :: P) = q.2 + totP P := rfl
    rw [this, List.take_zero]
    have : totP [] = 0 := rfl
    omega
  | q :: P, i + 1, p, h => by
    have := take_sum P i p (by simpa using h)
    have e1 : totP (q :: P) = q.2 + totP P := rfl
    have e2 : totP ((q :: P).take (i + 1)) = q.2 + totP (P.take i) := rfl
    omega
theorem foldl_unS2 : ∀ (P : List (Str × Nat)) (s : List D × Nat), (P.foldl unS s).2 = s.2 + totP P
  | [], s => rfl
  | p :: P, s => by
    have e1 : totP (p :: P) = p.2 + totP P := rfl
    rw [List.foldl_cons, foldl_unS2 P, unS, e1, Nat.add_assoc]
theorem S__law_unlike : P__law_unlike (runF 1 6 B__law_unlike) := fun N h => by
  rw [run1 (np := 1) rfl]
  have hp6 := h.p6
  simp [B__law_unlike, eN_0]
  refine for_postN (Q := fun fl => fl.out = _) unS (fun i s env => (∃ s3 s4 s5, env = [.val (eN N), .own (.list s.1), .val (.int (s.2 : Nat)), s3, s4, s5]) ∧ s.1.length = i ∧ s.2 = totP (N.P.take i)) (s := ([], 0)) ⟨⟨_, _, _, rfl⟩, by simp, rfl⟩ ?_ ?_
  · rintro i p hp s env ⟨⟨s3, s4, s5, rfl⟩, hl, hk⟩
    have hi := (List.getElem?_eq_some_iff.mp hp).1
    have h24 := tot_le h
    have htk := take_sum N.P i p hp
    have h4 := (h.ln p (List.mem_of_getElem? hp)).2
    have hr : rng (.int 0) (.int (p.2 : Nat)) = .ok (rgD p.2) := rng_nat (by omega)
    have hpl : p.2 ≤ 16777216 := by omega
    have hx : ∀ j ∈ List.range p.2, ((dIdx (.str "abcdefghijklmnopqrstuvwxyz") (.int ((s.2 : Int) + (j : Nat)))).bind fun y => dBin .add (.str "u") y) = .ok (uD (s.2 + j)) := fun j hj => by
      rw [List.mem_range] at hj
      have hlt : s.2 + j < 26 := by omega
      have e1 : dIdx (.str "abcdefghijklmnopqrstuvwxyz") (.int ((s.2 : Int) + (j : Nat))) = .ok (strAt SMALL (s.2 + j)) := by
        have := dIdx_str (z := SMALL) (i := s.2 + j) (by have : SMALL.length = 26 := by decide +kernel
                                                         omega) (by decide +kernel)
        rw [Int.natCast_add] at this
        exact this
      have e2 : ∀ k, k < 26 → strAt SMALL k = .str (strD (strAt SMALL k)) := by
        intro k hk
        have : isName (strAt SMALL k) = true := by
          have := (by decide +kernel : ∀ k, k < 26 → isName (strAt SMALL k) = true)
          exact this k hk
        exact (strD_name this).symm
      have e3 : ∀ k, k < 26 → ("u" : Str).length + (strD (strAt SMALL k)).length ≤ 16777216 := by decide +kernel
      rw [e1, R.bind_ok, e2 _ hlt]
      have e4 : ∀ x : Str, dBin .add (.str "u") (.str x) = dAdd (.str "u") (.str x) := fun _ => rfl
      rw [e4, dAdd, if_pos (e3 _ hlt)]
      rfl
    simp +contextual -implicitDefEqProofs [forF, eP, hr, rgD, -rng_nat, hx, hpl]
    rw [if_pos (by omega)]
    simp [unS, hl]
    have e2 : N.P.take (i + 1) = N.P.take i ++ [p] := by
      rw [List.take_add_one, hp]; rfl
    rw [e2, totP, List.map_append, List.sum_append, ← totP, hk]
    simp
  · rintro env ⟨⟨s3, s4, s5, rfl⟩, hl, hk⟩
    simp
    rw [unS_all N.P _ h.nd]
    unfold eF Net.ns unF
    simp [Function.comp_def]
end Fp

set_option Elab.async false
set_option linter.all false
set_option maxRecDepth 100000
set_option maxHeartbeats 1000000
/-! Slugs called otherwise; nothing is lost; where a slug lies. -/
namespace Fp
open PySem L2
/-! ### pushing goes by the slugs as they are -/
theorem last_map {φ : D → D} (h0 : φ .none = .none) (xs : List D) : lastD (xs.map φ) = φ (lastD xs) := by
  unfold lastD
  rw [List.getLast?_map]
  cases xs.getLast? with
  | none => exact h0.symm
  | some x => rfl
def mapPS (φ : D → D) (s : PS) : PS := (fun n => (s.1 n).map φ, φ s.2)
theorem stepF_map {φ : D → D} (h0 : φ .none = .none) (s : PS) (n : Str) : stepF (mapPS φ s) n = mapPS φ (stepF s n) := by
  unfold stepF mapPS
  refine Prod.ext (funext fun m => ?_) (last_map h0 _)
  show (if m = n then _ else _) = List.map φ (if m = n then _ else _)
  split
  · rw [List.map_cons, List.map_dropLast]
  · rfl
theorem pushF_map {φ : D → D} (h0 : φ .none = .none) (f : Str → List D) (row : List Str) (x : D) : pushF (fun n => (f n).map φ) row (φ x) = mapPS φ (pushF f row x) := by
  have : ∀ (row : List Str) (s : PS), row.foldl stepF (mapPS φ s) = mapPS φ (row.foldl stepF s) := fun row => by
    induction row with
    | nil => exact fun _ => rfl
    | cons n row ih => exact fun s => by rw [List.foldl_cons, stepF_map h0, ih]; rfl
  exact this row (f, x)
def mapGS (φ : D → D) (s : GS') : GS' := (fun n => (s.1 n).map φ, s.2.map fun o => (o.1, φ o.2))
def mapR (φ : D → D) (rs : Run) : Run := rs.map fun p => (p.1, φ p.2)
theorem goF_map {φ : D → D} (h0 : φ .none = .none) (f : Str → List D) (rs : Run) : goF (fun n => (f n).map φ) (mapR φ rs) = mapGS φ (goF f rs) := by
  have : ∀ (rs : Run) (s : GS'), (mapR φ rs).foldl goS (mapGS φ s) = mapGS φ (rs.foldl goS s) := fun rs => by
    induction rs with
    | nil => exact fun _ => rfl
    | cons p rs ih =>
      intro s
      show (mapR φ rs).foldl goS (goS (mapGS φ s) (p.1, φ p.2)) = _
      have e : goS (mapGS φ s) (p.1, φ p.2) = mapGS φ (goS s p) := by
        unfold goS
        have := pushF_map h0 s.1 p.1.2 p.2
        show ((pushF (fun n => (s.1 n).map φ) p.1.2 (φ p.2)).1, _ ++ [(p.1.1, (pushF (fun n => (s.1 n).map φ) p.1.2 (φ p.2)).2)]) = _
        rw [this]
        simp [mapGS, mapPS]
      rw [e, ih]
      rfl
  exact this rs (f, [])
/-! ### nothing is lost -/
def Has (q : D → Bool) (N : Net) (f : Str → List D) : Prop := ∃ n ∈ N.ns, ∃ x ∈ f n, q x = true
theorem stepF_has {q : D → Bool} {N : Net} {s : PS} {n : Str} (hn : n ∈ N.ns) (hf : FOk N s.1) (h : Has q N s.1 ∨ q s.2 = true) : Has q N (stepF s n).1 ∨ q (stepF s n).2 = true := by
  have hne := hf.ne n hn
  rcases h with ⟨m, hm, x, hx, hq⟩ | hq
  · by_cases e : m = n
    · subst e
      have hd := List.dropLast_concat_getLast hne
      have hl : lastD (s.1 m) = (s.1 m).getLast hne := by
        have := lastD_ok hne
        rw [List.getLast?_eq_some_getLast hne] at this
        exact (Option.some.inj this).symm
      rw [← hd] at hx
      rcases List.mem_append.mp hx with hx | hx
      · left
        refine ⟨m, hn, x, ?_, hq⟩
        show x ∈ (if m = m then s.2 :: (s.1 m).dropLast else s.1 m)
        rw [if_pos rfl]
        exact List.mem_cons_of_mem _ hx
      · right
        rw [List.mem_singleton] at hx
        show q (lastD (s.1 m)) = true
        rw [hl, ← hx]
        exact hq
    · left
      refine ⟨m, hm, x, ?_, hq⟩
      show x ∈ (if m = n then s.2 :: (s.1 n).dropLast else s.1 m)
      rw [if_neg e]
      exact hx
  · left
    refine ⟨n, hn, s.2, ?_, hq⟩
    show s.2 ∈ (if n = n then s.2 :: (s.1 n).dropLast else s.1 n)
    rw [if_pos rfl]
    exact List.mem_cons_self
theorem pushF_has {q : D → Bool} {N : Net} {row : List Str} (hr : ∀ n ∈ row, n ∈ N.ns) : ∀ {s : PS}, FOk N s.1 → Has q N s.1 ∨ q s.2 = true → Has q N (row.foldl stepF s).1 ∨ q (row.foldl stepF s).2 = true := by
  induction row with
  | nil => exact fun _ h => h
  | cons n row ih => exact fun {s} hf h => ih (fun m hm => hr m (List.mem_cons_of_mem _ hm)) (stepF_ok hf) (stepF_has (hr n List.mem_cons_self) hf h)
theorem goS_has {q : D → Bool} {N : Net} (h : NOk N) : ∀ {rs : Run} {s : GS'}, (∀ p ∈ rs, p.1 ∈ N.W) → FOk N s.1 → (Has q N s.1 ∨ ∃ o ∈ s.2, q o.2 = true) → Has q N (rs.foldl goS s).1 ∨ ∃ o ∈ (rs.foldl goS s).2, q o.2 = true
  | [], s, _, _, k => k
  | p :: rs, s, hw, hf, k => by
    have hr := (h.rw _ (hw p List.mem_cons_self)).2.2.2
    refine goS_has h (rs := rs) (fun q hq => hw q (List.mem_cons_of_mem _ hq)) (pushF_ok hf p.2 p.1.2) ?_
    rcases k with k | ⟨o, ho, hq⟩
    · rcases pushF_has hr (s := (s.1, p.2)) hf (.inl k) with e | e
      · exact .inl e
      · exact .inr ⟨_, List.mem_append_right _ List.mem_cons_self, e⟩
    · exact .inr ⟨o, List.mem_append_left _ ho, hq⟩
/-! ### the first place of what is so -/
theorem range_find {q : D → Bool} (a : Str) : ∀ xs : List D, ((List.range xs.length).map fun i => ((a, i) : Spot)).find? (fun s => q (xs[s.2]?.getD .none)) = if xs.any q = true then some (a, xs.findIdx q) else none := by
  intro xs
  by_cases h : xs.any q = true
  · rw [if_pos h, List.find?_eq_some_iff_getElem]
    obtain ⟨x, hx, hq⟩ := List.any_eq_true.mp h
    have hl := List.findIdx_lt_length_of_exists ⟨x, hx, hq⟩
    refine ⟨?_, xs.findIdx q, by simpa using hl, by simp, fun j hj => ?_⟩
    · simp only [List.getElem?_eq_getElem hl]
      exact List.findIdx_getElem
    · have := List.not_of_lt_findIdx hj
      have hjl : j < xs.length := by omega
      simp only [List.getElem_map, List.getElem_range, List.getElem?_eq_getElem hjl, Option.getD_some]
      simpa using this
  · rw [if_neg h, List.find?_eq_none]
    intro s hs
    obtain ⟨i, hi, rfl⟩ := List.mem_map.mp hs
    rw [List.mem_range] at hi
    simp only [List.getElem?_eq_getElem hi, Option.getD_some]
    intro hq
    exact h (List.any_eq_true.mpr ⟨_, List.getElem_mem _, hq⟩)
theorem spots_find {q : D → Bool} {N : Net} {f : Str → List D} (l : LOk N f) : N.spots.find? (fun s => q (atF f s)) = (N.P.find? fun p => (f p.1).any q).map fun p => (p.1, (f p.1).findIdx q) := by
  have : ∀ P : List (Str × Nat), (∀ p ∈ P, (f p.1).length = p.2) → (P.flatMap fun p => (List.range p.2).map fun i => ((p.1, i) : Spot)).find? (fun s => q (atF f s)) = (P.find? fun p => (f p.1).any q).map fun p => (p.1, (f p.1).findIdx q) := fun P => by
    induction P with
    | nil => exact fun _ => rfl
    | cons p P ih =>
      intro hh
      have ih := ih fun q hq => hh q (List.mem_cons_of_mem _ hq)
      rw [List.flatMap_cons, List.find?_append, ih, List.find?_cons, ← hh p List.mem_cons_self]
      have e : ((List.range (f p.1).length).map fun i => ((p.1, i) : Spot)).find? (fun s => q (atF f s)) = ((List.range (f p.1).length).map fun i => ((p.1, i) : Spot)).find? (fun s => q ((f p.1)[s.2]?.getD .none)) := by
        rw [List.find?_map, List.find?_map]
        rfl
      rw [e, range_find]
      cases h : (f p.1).any q with
      | true => rw [if_pos rfl]; rfl
      | false => rw [if_neg (by simp)]; rfl
  exact this N.P l
/-! ### the marks -/
def phi (N : Net) : D → D
  | .tuple [.str n, .int i] => (unF N n)[i.toNat]?.getD .none
  | d => d
theorem phi_none (N : Net) : phi N .none = .none := rfl
theorem phi_int (N : Net) (k : Int) : phi N (.int k) = .int k := rfl
theorem phi_spot (N : Net) (s : Spot) : phi N (eS s) = (unF N s.1)[s.2]?.getD .none := rfl
theorem unF_len {N : Net} (h : NOk N) : LOk N (unF N) := fun p hp => unAt_len N.P 0 h.nd p hp
theorem unF_mk {N : Net} (h : NOk N) : unF N = fun n => (mkF N n).map (phi N) := by
  funext n
  by_cases hn : n ∈ N.ns
  · obtain ⟨p, hp, rfl⟩ := List.mem_map.mp hn
    have hl := unF_len h p hp
    apply List.ext_getElem?
    intro i
    rw [mkF, List.map_map, len_of h hp]
    by_cases hi : i < p.2
    · rw [List.getElem?_map, List.getElem?_range hi]
      show (unF N p.1)[i]? = some ((unF N p.1)[((i : Int)).toNat]?.getD .none)
      rw [Int.toNat_natCast, List.getElem?_eq_getElem (by omega)]
      rfl
    · rw [List.getElem?_eq_none (by omega), List.getElem?_eq_none (by simp; omega)]
  · have e1 : unF N n = [] := unAt_none _ _ _ hn
    have e2 : N.len n = 0 := by
      unfold Net.len
      rw [List.find?_eq_none.mpr fun p hp e => hn (List.mem_map.mpr ⟨p, hp, of_decide_eq_true e⟩)]
      rfl
    rw [e1, mkF, e2]
    rfl
/-- all marks in a row -/
theorem marks_all {N : Net} (h : NOk N) : N.spots.map (fun s => phi N (eS s)) = (List.range (totP N.P)).map uD := by
  have e := unAt_all N.P 0 h.nd
  simp only [Nat.zero_add] at e
  rw [← e]
  unfold Net.spots
  rw [List.map_flatMap, List.flatMap_def]
  congr 1
  refine List.map_congr_left fun p hp => ?_
  have hl := unF_len h p hp
  rw [List.map_map]
  apply List.ext_getElem?
  intro i
  by_cases hi : i < p.2
  · rw [List.getElem?_map, List.getElem?_range hi]
    show some ((unF N p.1)[((i : Int)).toNat]?.getD .none) = (unF N p.1)[i]?
    rw [Int.toNat_natCast, List.getElem?_eq_getElem (by omega)]
    rfl
  · rw [List.getElem?_eq_none (by simp; omega)]
    exact (List.getElem?_eq_none (by have : (unF N p.1).length = p.2 := hl; show (unF N p.1).length ≤ i; omega)).symm
theorem phi_str {N : Net} (h : NOk N) {s : Spot} (hs : s ∈ N.spots) : ∃ k, k < 26 ∧ phi N (eS s) = uD k := by
  have : phi N (eS s) ∈ N.spots.map (fun s => phi N (eS s)) := List.mem_map.mpr ⟨s, hs, rfl⟩
  rw [marks_all h] at this
  obtain ⟨k, hk, e⟩ := List.mem_map.mp this
  have := tot_le h
  rw [List.mem_range] at hk
  exact ⟨k, by omega, e.symm⟩
theorem marks_nd {N : Net} (h : NOk N) : (N.spots.map (fun s => phi N (eS s))).Nodup := by
  rw [marks_all h]
  have := tot_le h
  refine List.pairwise_map.mpr (List.Pairwise.imp_of_mem (fun {a b} ha hb hab e => hab ?_) List.nodup_range)
  rw [List.mem_range] at ha hb
  have e : uS a = uS b := by
    exact PyData.str.inj e
  exact uS_inj a (by omega) b (by omega) e
theorem phi_inj {N : Net} (h : NOk N) {s t : Spot} (hs : s ∈ N.spots) (ht : t ∈ N.spots) (e : phi N (eS s) = phi N (eS t)) : s = t := by
  have hnd := marks_nd h
  have := List.pairwise_map.mp hnd
  have key : ∀ (l : List Spot), l.Pairwise (fun a b => phi N (eS a) ≠ phi N (eS b)) → s ∈ l → t ∈ l → s = t := fun l => by
    induction l with
    | nil => exact fun _ h => nomatch h
    | cons a l ih =>
      intro hp h1 h2
      have hp' := List.pairwise_cons.mp hp
      rcases List.mem_cons.mp h1 with k1 | k1 <;> rcases List.mem_cons.mp h2 with k2 | k2
      · rw [k1, k2]
      · exact absurd (k1 ▸ e) (hp'.1 t k2)
      · exact absurd (k2 ▸ e.symm) (hp'.1 s k1)
      · exact ih hp'.2 k1 k2
  exact key _ this hs ht
theorem eqv_spot (s t : Spot) : PyData.eqv (eS s) (eS t) = decide (s = t) := by
  have : PyData.eqv (eS s) (eS t) = (PyData.eqv (.str s.1) (.str t.1) && (PyData.eqv (.int s.2) (.int t.2) && true)) := rfl
  rw [this, eqv_str]
  have e2 : PyData.eqv (.int s.2) (.int t.2) = decide (s.2 = t.2) := by
    show decide ((s.2 : Int) = t.2) = _
    exact decide_eq_decide.mpr (by omega)
  rw [e2, Bool.and_true, ← Bool.decide_and]
  exact decide_eq_decide.mpr ⟨fun h => Prod.ext h.1 h.2, fun h => by rw [h]; exact ⟨rfl, rfl⟩⟩
theorem eqv_phi {N : Net} (h : NOk N) {x y : D} (hx : VOk N x) (hy : VOk N y) : PyData.eqv (phi N x) (phi N y) = PyData.eqv x y := by
  rcases hx with ⟨s, hs, rfl⟩ | ⟨k, rfl⟩ <;> rcases hy with ⟨t, ht, rfl⟩ | ⟨m, rfl⟩
  · rw [eqv_spot]
    obtain ⟨a, ha, ea⟩ := phi_str h hs
    obtain ⟨b, hb, eb⟩ := phi_str h ht
    rw [ea, eb]
    show PyData.eqv (.str _) (.str _) = _
    rw [eqv_str]
    refine decide_eq_decide.mpr ⟨fun e => phi_inj h hs ht ?_, fun e => ?_⟩
    · rw [ea, eb]; exact congrArg PyData.str e
    · subst e
      rw [ea] at eb
      exact PyData.str.inj eb
  · obtain ⟨a, ha, ea⟩ := phi_str h hs
    rw [ea]; rfl
  · obtain ⟨b, hb, eb⟩ := phi_str h ht
    rw [eb]; rfl
  · rfl
theorem numR_map (N : Net) (rs : Run) : mapR (phi N) (numR rs) = numR rs := by
  unfold mapR numR
  rw [List.map_map]
  rfl
theorem told_phi {N : Net} (h : NOk N) (rs : Run) : goF (unF N) (numR rs) = mapGS (phi N) (trF N rs) := by
  rw [unF_mk h]
  have := goF_map (phi_none N) (mkF N) (numR rs)
  rw [numR_map] at this
  exact this
end Fp

set_option Elab.async false
set_option linter.all false
set_option maxRecDepth 100000
set_option maxHeartbeats 1000000
/-! where and whence by the laws' marks. -/
namespace Fp
open PySem L2
theorem dataPlace_map {N : Net} (h : NOk N) {y : D} (hy : VOk N y) : ∀ {xs : List D}, (∀ x ∈ xs, VOk N x) → PySem.SeqAt.dataPlace (xs.map (phi N)) (phi N y) = PySem.SeqAt.dataPlace xs y := by
  intro xs hx
  unfold PySem.SeqAt.dataPlace
  induction xs with
  | nil => rfl
  | cons x xs ih =>
    rw [List.map_cons, List.findIdx?_cons, List.findIdx?_cons, eqv_phi h (hx x List.mem_cons_self) hy, ih fun z hz => hx z (List.mem_cons_of_mem _ hz)]
theorem any_map {N : Net} (h : NOk N) {y : D} (hy : VOk N y) : ∀ {xs : List D}, (∀ x ∈ xs, VOk N x) → ((xs.map (phi N)).any fun z => PyData.eqv z (phi N y)) = (xs.any fun z => PyData.eqv z y) ∧ ((xs.map (phi N)).findIdx fun z => PyData.eqv z (phi N y)) = (xs.findIdx fun z => PyData.eqv z y) := by
  intro xs hx
  induction xs with
  | nil => exact ⟨rfl, rfl⟩
  | cons x xs ih =>
    have ih := ih fun z hz => hx z (List.mem_cons_of_mem _ hz)
    have e := eqv_phi h (hx x List.mem_cons_self) hy
    rw [List.map_cons, List.any_cons, List.any_cons, List.findIdx_cons, List.findIdx_cons, e, ih.1, ih.2]
    exact ⟨rfl, rfl⟩
theorem find_congr {α : Type} {p q : α → Bool} : ∀ {xs : List α}, (∀ x ∈ xs, p x = q x) → xs.find? p = xs.find? q
  | [], _ => rfl
  | x :: xs, h => by rw [List.find?_cons, List.find?_cons, h x List.mem_cons_self, find_congr fun y hy => h y (List.mem_cons_of_mem _ hy)]
theorem VA_at {V : D → Prop} {N : Net} {f : Str → List D} (k : VA V N f) {p : Str × Nat} (hp : p ∈ N.P) : ∀ x ∈ f p.1, V x := k p.1 (List.mem_map.mpr ⟨p, hp, rfl⟩)
theorem has_mk {N : Net} (h : NOk N) {s : Spot} (hs : s ∈ N.spots) : Has (fun z => PyData.eqv z (eS s)) N (mkF N) := by
  obtain ⟨p, hp, e1, e2⟩ := mem_spots.mp hs
  refine ⟨p.1, List.mem_map.mpr ⟨p, hp, rfl⟩, eS s, ?_, ?_⟩
  · refine List.mem_map.mpr ⟨s.2, ?_, ?_⟩
    · rw [len_of h hp, List.mem_range]; exact e2
    · rw [← e1]
  · show PyData.eqv (eS s) (eS s) = true
    rw [eqv_spot]; simp
/-- what the law reckons where a mark comes to -/
theorem where_due {N : Net} (h : NOk N) {rs : Run} (hr : ROk N rs) {s : Spot} (hs : s ∈ N.spots) :
    (∃ j, PySem.SeqAt.dataPlace ((trF N rs).2.map fun o => phi N o.2) (phi N (eS s)) = some j ∧ whereR N rs s = .ok (.int (j : Nat))) ∨
    (PySem.SeqAt.dataPlace ((trF N rs).2.map fun o => phi N o.2) (phi N (eS s)) = none ∧ ∃ p ∈ N.P, (N.P.find? fun p => (((trF N rs).1 p.1).map (phi N)).any fun z => PyData.eqv z (phi N (eS s))) = some p ∧
      whereR N rs s = .ok (.tuple [.str p.1, .int ((((trF N rs).1 p.1).map (phi N)).findIdx fun z => PyData.eqv z (phi N (eS s)) : Nat)])) := by
  have hv := trF_V h hr
  have hl := trF_L h hr
  have hy : VOk N (eS s) := .inl ⟨s, hs, rfl⟩
  have e0 : ((trF N rs).2.map fun o => phi N o.2) = ((trF N rs).2.map (·.2)).map (phi N) := by rw [List.map_map]; rfl
  have e1 := dataPlace_map h hy (xs := (trF N rs).2.map (·.2)) fun x hx => by
    obtain ⟨o, ho, rfl⟩ := List.mem_map.mp hx
    exact hv.2 o ho
  rw [e0, e1]
  cases hp : PySem.SeqAt.dataPlace ((trF N rs).2.map (·.2)) (eS s) with
  | some j => exact .inl ⟨j, rfl, by rw [whereR, hp]⟩
  | none =>
    right
    refine ⟨rfl, ?_⟩
    have hno : ∀ o ∈ (trF N rs).2, PyData.eqv o.2 (eS s) = false := fun o ho => by
      have := List.findIdx?_eq_none_iff.mp hp o.2 (List.mem_map.mpr ⟨o, ho, rfl⟩)
      simpa using this
    have hhas := goS_has (q := fun z => PyData.eqv z (eS s)) h (numR_ok hr).ws (s := (mkF N, [])) (mkF_ok h) (.inl (has_mk h hs))
    have hhas : Has (fun z => PyData.eqv z (eS s)) N (trF N rs).1 := by
      rcases hhas with k | ⟨o, ho, hq⟩
      · exact k
      · have := hno o ho
        rw [this] at hq; cases hq
    obtain ⟨n, hn, x, hx, hq⟩ := hhas
    obtain ⟨p0, hp0, rfl⟩ := List.mem_map.mp hn
    have ef : (N.P.find? fun p => (((trF N rs).1 p.1).map (phi N)).any fun z => PyData.eqv z (phi N (eS s))) = N.P.find? fun p => ((trF N rs).1 p.1).any fun z => PyData.eqv z (eS s) :=
      find_congr fun p hp => (any_map h hy (VA_at hv.1 hp)).1
    cases hfd : N.P.find? fun p => ((trF N rs).1 p.1).any fun z => PyData.eqv z (eS s) with
    | none =>
      have := List.find?_eq_none.mp hfd p0 hp0
      exact absurd (List.any_eq_true.mpr ⟨x, hx, hq⟩) this
    | some p =>
      have hpm := List.mem_of_find?_eq_some hfd
      refine ⟨p, hpm, by rw [ef, hfd], ?_⟩
      rw [(any_map h hy (VA_at hv.1 hpm)).2, whereR, hp]
      show ofO ((N.spots.find? fun s' => PyData.eqv (atF (trF N rs).1 s') (eS s)).map eS) = _
      rw [spots_find (q := fun z => PyData.eqv z (eS s)) hl, hfd]
      rfl
/-- the spot of a mark -/
theorem spot_mark {N : Net} (h : NOk N) {t : Spot} (ht : t ∈ N.spots) : ∃ p ∈ N.P, (N.P.find? fun p => (unF N p.1).any fun z => PyData.eqv z (phi N (eS t))) = some p ∧ eS t = .tuple [.str p.1, .int ((unF N p.1).findIdx fun z => PyData.eqv z (phi N (eS t)) : Nat)] := by
  have ha : ∀ s ∈ N.spots, atF (unF N) s = phi N (eS s) := fun s hs => rfl
  have hq : ∀ s ∈ N.spots, PyData.eqv (atF (unF N) s) (phi N (eS t)) = decide (s = t) := fun s hs => by
    rw [ha s hs, eqv_phi h (.inl ⟨s, hs, rfl⟩) (.inl ⟨t, ht, rfl⟩), eqv_spot]
  have hsf := spots_find (q := fun z => PyData.eqv z (phi N (eS t))) (unF_len h)
  have hft : N.spots.find? (fun s => PyData.eqv (atF (unF N) s) (phi N (eS t))) = some t := by
    cases hf : N.spots.find? (fun s => PyData.eqv (atF (unF N) s) (phi N (eS t))) with
    | none =>
      have := List.find?_eq_none.mp hf t ht
      rw [hq t ht] at this
      simp at this
    | some s =>
      have h1 := List.find?_some hf
      have h2 := List.mem_of_find?_eq_some hf
      rw [hq s h2] at h1
      rw [of_decide_eq_true h1]
  rw [hft] at hsf
  cases hfd : N.P.find? fun p => (unF N p.1).any fun z => PyData.eqv z (phi N (eS t)) with
  | none => rw [hfd] at hsf; cases hsf
  | some p =>
    rw [hfd] at hsf
    refine ⟨p, List.mem_of_find?_eq_some hfd, rfl, ?_⟩
    exact congrArg eS (Option.some.inj hsf)
end Fp

set_option Elab.async false
set_option linter.all false
set_option maxRecDepth 100000
set_option maxHeartbeats 1000000
/-! Small things for the laws' bad things. -/
namespace Fp
open PySem L2
theorem tm_cst {d : D} {k : Nat} (h1 : d.plain = true) (h2 : d.depth ≤ k) (h3 : sz d = true) : Tm k d := ⟨h1, h2, h3⟩
theorem zz_ws {N : Net} (h : NDr N) : (("zz" : Str) ∈ N.ws) = False := by
  rw [h.wn]
  apply eq_false
  intro e
  have := List.mem_of_mem_take e
  revert this
  decide
theorem not_ns {N : Net} (h : NDr N) {x : Str} (hx : x ∉ (["p", "q", "r", "s"] : List Str)) : x ∉ N.ns := by
  rw [h.pn]
  exact fun e => hx (List.mem_of_mem_take e)
theorem cut_net1 (a b : D) : cutD [a, b] none (some 1) = [a] := rfl
theorem szAll_all : ∀ {xs : List D}, (∀ x ∈ xs, sz x = true) → szAll xs = true
  | [], _ => rfl
  | x :: xs, h => by rw [szAll, h x List.mem_cons_self, szAll_all fun y hy => h y (List.mem_cons_of_mem _ hy)]; rfl
theorem eN_parts {N : Net} (h : NOk N) : Tm 4 (.tuple (N.P.map eP)) ∧ Tm 4 (.tuple (N.W.map eW)) := by
  have h1 := eN_Tm h
  have h2 := fun x hx => szAll_mem (sz_tuple h1.2.2).2 (x := x) hx
  have t1 : ∀ x ∈ N.P.map eP, Tm 1 x := fun x hx => by
    obtain ⟨p, hp, rfl⟩ := List.mem_map.mp hx
    exact Tm_tuple (by simp) (two (Tm_name (h.nm _ (List.mem_map.mpr ⟨p, hp, rfl⟩)) _) Tm_int)
  have t2 : ∀ x ∈ N.W.map eW, Tm 2 x := fun x hx => by
    obtain ⟨w, hw, rfl⟩ := List.mem_map.mp hx
    refine Tm_tuple (by simp) (two (Tm_name (h.wm _ (List.mem_map.mpr ⟨w, hw, rfl⟩)) _) (Tm_tuple (by have := (h.rw w hw).2.1; simp; omega) fun y hy => ?_))
    obtain ⟨n, hn, rfl⟩ := List.mem_map.mp hy
    exact Tm_name (h.nm _ ((h.rw w hw).2.2.2 n hn)) _
  exact ⟨Tm_mono (Tm_tuple (by have := h.p6; simp; omega) t1) (by omega), Tm_mono (Tm_tuple (by have := h.w8; simp; omega) t2) (by omega)⟩
end Fp

set_option Elab.async false
set_option linter.all false
set_option maxRecDepth 100000
set_option maxHeartbeats 1000000
/-! k05: runs. -/
namespace Fp
open PySem
theorem pickM {α : Type} {c : α → D} {xs : List α} {r : Int} (h0 : 0 ≤ r) (h1 : r < xs.length) : ∃ y ∈ xs, dIdx (.tuple (xs.map c)) (.int r) = .ok (c y) ∧ dIdx (.list (xs.map c)) (.int r) = .ok (c y) := by
  obtain ⟨n, rfl⟩ := Int.eq_ofNat_of_zero_le h0
  have hn : n < xs.length := by omega
  have e : (xs.map c)[n]? = some (c xs[n]) := by rw [List.getElem?_map, List.getElem?_eq_getElem hn]; rfl
  exact ⟨xs[n], List.getElem_mem _, idxT_nat e, idxL_nat e⟩
theorem mul_int (i j : Int) (h : (decide (-(2 ^ 64) < i) && decide (i < 2 ^ 64) || decide (-(2 ^ 64) < j) && decide (j < 2 ^ 64)) = true) : dBin .mul (.int i) (.int j) = .ok (.int (i * j)) := by
  have e : dBin .mul (.int i) (.int j) = dMul (.int i) (.int j) := rfl
  rw [e, dMul, if_pos h]
theorem mul2 (k : Int) : dBin .mul (.int 2) (.int k) = .ok (.int (2 * k)) := mul_int 2 k (by simp)
theorem ROk_nil {N : Net} : ROk N [] := ⟨fun p hp => (nomatch hp), by simp⟩
theorem RNm_nil : RNm [] := fun p hp => (nomatch hp)
def K05run (g : List D → R D) : Prop := ∀ sc at' most, Sc sc → 0 ≤ at' → at' < 100000 → 0 ≤ most → most ≤ 1000 → ∀ N, NDr N → ∃ rs, ROk N rs ∧ RNm rs ∧ rs.length ≤ 1000 ∧ g [sc, .int at', eN N, .int most] = .ok (eRun rs)
theorem K05run_ok {gd : List D → R D} {jd : Nat} (hd : P__law_drawn gd) : K05run (runF 4 8 (Bk05__law_run jd gd)) := by
  intro sc at' most hsc h0 h1 m0 m1 N hN
  have hk := hN.toNOk
  obtain ⟨r, r0, r1, er⟩ := hd sc hsc at' (most + 1) h0 (by omega) (by omega)
  obtain ⟨n, rfl⟩ := Int.eq_ofNat_of_zero_le r0
  rw [run1 (np := 4) rfl]
  have key : ∃ rs, (ROk N rs ∧ RNm rs ∧ rs.length ≤ 1000) ∧ (exSs (Bk05__law_run jd gd) ([sc, .int at', eN N, .int most].map .val ++ List.replicate (8 - 4) .un)).out = .ok (eRun rs) := by
    have hrn : rng (.int 0) (.int (n : Nat)) = .ok (rgD n) := rng_nat (by omega)
    simp -implicitDefEqProofs [Bk05__law_run, er, hrn, -rng_nat, rgD]
    refine for_postN (Q := fun fl => ∃ rs, (ROk N rs ∧ RNm rs ∧ rs.length ≤ 1000) ∧ fl.out = .ok (eRun rs)) (fun (u : Unit) _ => u)
      (fun i _ env => ∃ rs s6 s7, (ROk N rs ∧ RNm rs ∧ rs.length = i) ∧ env = [.val sc, .val (.int at'), .val (eN N), .val (.int most), .val (.int n), .own (.list (rs.map ePush)), s6, s7]) (s := ()) ⟨[], _, _, ⟨ROk_nil, RNm_nil, rfl⟩, rfl⟩ ?_ ?_
    · rintro i k hik _ env ⟨rs, s6, s7, ⟨ok, nm, hl⟩, rfl⟩
      have hki : k = i := by
        have := (List.getElem?_eq_some_iff.mp hik)
        obtain ⟨hh, e⟩ := this
        simp at e
        omega
      subst hki
      have hkn : k < n := by
        have := (List.getElem?_eq_some_iff.mp hik).1
        simpa using this
      have hwl := hk.w1
      have hw8 := hk.w8
      obtain ⟨a, a0, a1, ea⟩ := hd sc hsc (at' + 1 + 2 * k) N.W.length (by omega) (by omega) (by omega)
      obtain ⟨w, hw, ew, _⟩ := pickM (c := eW) a0 a1
      obtain ⟨b, b0, b1, eb⟩ := hd sc hsc (at' + 2 + 2 * k) 3 (by omega) (by omega) (by omega)
      obtain ⟨y, hy, ey⟩ := pick (xs := [.str "x", .str "y", .str "new"]) b0 (by simpa using b1)
      have ny : isName y = true := by
        simp only [List.mem_cons, List.not_mem_nil, or_false] at hy
        rcases hy with rfl | rfl | rfl <;> decide +kernel
      have ew2 : dIdx (eW w) (.int 0) = .ok (.str w.1) := dIdxT0
      simp -implicitDefEqProofs [forF, eN_1, mul2, ea, ew, ew2, eb, ey]
      rw [if_pos (by omega)]
      simp
      refine ⟨rs ++ [(w, y)], ⟨⟨?_, ?_⟩, ?_, by simp [hl]⟩, by simp [ePush]⟩
      · intro p hp
        rcases List.mem_append.mp hp with hp | hp
        · exact ok.ws p hp
        · rw [List.mem_singleton] at hp; subst hp; exact hw
      · rw [List.length_append]; simp; omega
      · intro p hp
        rcases List.mem_append.mp hp with hp | hp
        · exact nm p hp
        · rw [List.mem_singleton] at hp; subst hp; exact ny
    · rintro env ⟨rs, s6, s7, ⟨ok, nm, hl⟩, rfl⟩
      refine ⟨rs, ⟨ok, nm, ?_⟩, by simp; rfl⟩
      simp at hl
      omega
  obtain ⟨rs, ⟨a, b, c⟩, e⟩ := key
  exact ⟨rs, a, b, c, e⟩
theorem sel2' {g1 g2 : List D → R D} : idxF [g1, g2] (.int 0) = .ok g1 ∧ idxF [g1, g2] (.int 1) = .ok g2 := ⟨rfl, rfl⟩
structure K05no (g : List D → R D) : Prop where
  net : ∀ i : Int, i = 0 ∨ i = 1 ∨ i = 2 ∨ i = 3 ∨ i = 4 ∨ i = 5 → ∀ d st r o, sz d = true → fine d = true → isNet d = false → g [.int i, d, st, r, o] = .ok (.int 0)
  st : ∀ i : Int, i = 0 ∨ i = 1 → ∀ N, NOk N → ∀ st r o, sz st = true → stOf (N.P.map eP) st = false → g [.int i, eN N, st, r, o] = .ok (.int 1)
  run : ∀ i : Int, i = 0 ∨ i = 1 ∨ i = 2 ∨ i = 3 → ∀ N, NOk N → ∀ f, SOk N f → ∀ r o, sz r = true → isRun N r = false → g [.int i, eN N, eF N f, r, o] = .ok (.int 2)
  way : ∀ i : Int, i = 1 ∨ i = 5 → ∀ N, NOk N → ∀ f, SOk N f → ∀ rs, ROk N rs → RNm rs → ∀ o, sz o = true → isIn N.ws o = false → g [.int i, eN N, eF N f, eRun rs, o] = .ok (.int 4)
  spot : ∀ i : Int, i = 2 ∨ i = 3 → ∀ N, NOk N → ∀ f, SOk N f → ∀ rs, ROk N rs → RNm rs → ∀ o, sz o = true → isSpot N o = false → g [.int i, eN N, eF N f, eRun rs, o] = .ok (.int 3)
def k05h : Ss := (.cons (.asn (.nm 6) (.lst (.cons (.exi 5 "NoNet") (.cons (.exi 5 "NoState") (.cons (.exi 5 "NoRun") .nil)))))
 (.cons (.ret (.met .index (.bin .add (.slot 6) (.lst (.cons (.exi 5 "NoSpot") (.cons (.exi 5 "NoWay") .nil)))) (.cons (.cst (.bool true)) .nil)))
 .nil))
def k05cs : List (Str × Int) := [("NoNet", 0), ("NoState", 1), ("NoRun", 2), ("NoSpot", 3), ("NoWay", 4)]
theorem k05h_ok {a b c d f : Slot} {e : Str} {n : Int} (h : (e, n) ∈ k05cs) : exSs k05h [a, b, c, d, f, .exc e, .un] = .rt (.int n) := by
  simp only [k05cs, List.mem_cons, Prod.mk.injEq, List.not_mem_nil, or_false] at h
  rcases h with ⟨rfl, rfl⟩ | ⟨rfl, rfl⟩ | ⟨rfl, rfl⟩ | ⟨rfl, rfl⟩ | ⟨rfl, rfl⟩ <;> rfl
def k05b (j1 : Nat) (g1 : List D → R D) (j2 : Nat) (g2 : List D → R D) (j3 : Nat) (g3 : List D → R D) (j4 : Nat) (g4 : List D → R D) (j5 : Nat) (g5 : List D → R D) (j6 : Nat) (g6 : List D → R D) : Ss := (.cons (.ife (.cmp .eq (.slot 0) (.cst (.int 0))) (.cons (.exp (.call j1 g1 (.cons (.slot 1) (.cons (.slot 2) (.cons (.slot 3) .nil)))))
 .nil) (.cons (.ife (.cmp .eq (.slot 0) (.cst (.int 1))) (.cons (.exp (.call j2 g2 (.cons (.slot 1) (.cons (.slot 2) (.cons (.slot 3) (.cons (.slot 4) .nil))))))
 .nil) (.cons (.ife (.cmp .lt (.slot 0) (.cst (.int 4))) (.cons (.exp (.sel [j3, j4] [g3, g4] (.bin .sub (.slot 0) (.cst (.int 2))) (.cons (.slot 1) (.cons (.slot 3) (.cons (.slot 4) .nil)))))
 .nil) (.cons (.ife (.cmp .eq (.slot 0) (.cst (.int 4))) (.cons (.exp (.call j5 g5 (.cons (.slot 1) (.cons (.slot 3) .nil))))
 .nil) (.cons (.exp (.call j6 g6 (.cons (.slot 1) (.cons (.slot 4) .nil))))
 .nil))
 .nil))
 .nil))
 .nil))
 .nil)
section
variable {g1 g2 g3 g4 g5 g6 : List D → R D} {j1 j2 j3 j4 j5 j6 : Nat} {exs : List Str}
theorem k05no_of {a b c d f : D} {e : Str} {n : Int} (he : ∀ e n, (e, n) ∈ k05cs → exs.contains e = true) (h : (e, n) ∈ k05cs)
    (k : exSs (k05b j1 g1 j2 g2 j3 g3 j4 g4 j5 g5 j6 g6) [.val a, .val b, .val c, .val d, .val f, .un, .un] = .ex e [.val a, .val b, .val c, .val d, .val f, .un, .un]) :
    runF 5 7 (Bk05__law_no exs j1 g1 j2 g2 j3 g3 j4 g4 j5 g5 j6 g6) [a, b, c, d, f] = .ok (.int n) := by
  rw [run1 (np := 5) rfl]
  unfold Bk05__law_no
  show (exSs _ [.val a, .val b, .val c, .val d, .val f, .un, .un]).out = _
  unfold k05b at k
  rw [x_cons, x_tryx, k, tryF_ex (x := .int n) (he e n h) ?_ (by simp) (k05h_ok h)]
  · rfl
  · simp only [k05cs, List.mem_cons, Prod.mk.injEq, List.not_mem_nil, or_false] at h
    rcases h with ⟨rfl, rfl⟩ | ⟨rfl, rfl⟩ | ⟨rfl, rfl⟩ | ⟨rfl, rfl⟩ | ⟨rfl, rfl⟩ <;> decide
theorem K05no_ok (he : ∀ e n, (e, n) ∈ k05cs → exs.contains e = true) (h1 : P_behind g1) (h2 : P_outs_of g2) (h3 : P_where g3) (h4 : P_whence g4) (h5 : P_is_run g5) (h6 : P_delay g6) :
    K05no (runF 5 7 (Bk05__law_no exs j1 g1 j2 g2 j3 g3 j4 g4 j5 g5 j6 g6)) := by
  constructor
  · intro i hi d st r o hd hf hn
    refine k05no_of (e := "NoNet") he (by simp [k05cs]) ?_
    rcases hi with rfl | rfl | rfl | rfl | rfl | rfl
    · simp [k05b, h1.2.1 d st r hd hf hn]
    · simp [k05b, h2.2.1 d st r o hd hf hn]
    · simp [k05b, sel2', h3.net d r o hd hf hn]
    · simp [k05b, sel2', h4.net d r o hd hf hn]
    · simp [k05b, h5.2 d r hd hf hn]
    · simp [k05b, h6.2.1 d o hd hf hn]
  · intro i hi N h st r o hs hb
    refine k05no_of (e := "NoState") he (by simp [k05cs]) ?_
    rcases hi with rfl | rfl
    · simp [k05b, h1.2.2.1 N h st r hs hb]
    · simp [k05b, h2.2.2.1 N h st r o hs hb]
  · intro i hi N h f hf r o hr hb
    refine k05no_of (e := "NoRun") he (by simp [k05cs]) ?_
    rcases hi with rfl | rfl | rfl | rfl
    · simp [k05b, h1.2.2.2 N h f hf r hr hb]
    · simp [k05b, h2.2.2.2.1 N h f hf r o hr hb]
    · simp [k05b, sel2', h3.run N h r o hr hb]
    · simp [k05b, sel2', h4.run N h r o hr hb]
  · intro i hi N h f hf rs hr hn o ho hb
    refine k05no_of (e := "NoWay") he (by simp [k05cs]) ?_
    rcases hi with rfl | rfl
    · simp [k05b, h2.2.2.2.2 N h f hf rs hr hn o ho hb]
    · simp [k05b, h6.2.2 N h o ho hb]
  · intro i hi N h f hf rs hr hn o ho hb
    refine k05no_of (e := "NoSpot") he (by simp [k05cs]) ?_
    rcases hi with rfl | rfl
    · simp [k05b, sel2', h3.spot N h _ o (eRun_Tm h hr hn).2.2 (eRun_is hr hn) ho hb]
    · simp [k05b, sel2', h4.spot N h _ o (eRun_Tm h hr hn).2.2 (eRun_is hr hn) ho hb]
end
end Fp

set_option Elab.async false
set_option linter.all false
set_option maxRecDepth 100000
set_option maxHeartbeats 1000000
namespace Fp
open PySem
theorem len_le3 {N : Net} (h : NDr N) (n : Str) : N.len n ≤ 3 := by
  unfold Net.len
  cases e : N.P.find? fun p => decide (p.1 = n) with
  | none => exact Nat.zero_le _
  | some p => exact h.l3 p (List.mem_of_find?_eq_some e)
theorem rng_6 : rng (.int 0) (.int 6) = .ok [.int 0, .int 1, .int 2, .int 3, .int 4, .int 5] := rfl
def K05refused (g : List D → R D) : Prop := ∀ sc, Sc sc → ∀ N, NDr N → ∀ f, SOk N f → ∀ rs, ROk N rs → RNm rs → g [sc, eN N, eF N f, eRun rs] = .ok (.bool true)
theorem bad_run {N : Net} (h : NDr N) {rs : Run} (hr : ROk N rs) (hn : RNm rs) : ∀ d ∈ ([.none, .tuple [], .list [.none], .list [.tuple [.str "zz", .str "x"]], .list [.tuple [.str "a", .str "X"]], .list [.tuple [.str "a"]], .list [.list [.str "a", .str "x"]], .tuple (rs.map ePush)] : List D), isRun N d = false ∧ sz d = true := by
  intro d hd
  have ht := (eRun_Tm h.toNOk hr hn).2.2
  simp only [List.mem_cons, List.not_mem_nil, or_false] at hd
  rcases hd with rfl | rfl | rfl | rfl | rfl | rfl | rfl | rfl
  · exact ⟨rfl, rfl⟩
  · exact ⟨rfl, rfl⟩
  · exact ⟨rfl, rfl⟩
  · exact ⟨by simp [isRun, isPush, isIn, zz_ws h], rfl⟩
  · exact ⟨by have : isName (.str "X") = false := by decide +kernel
              simp [isRun, isPush, this], rfl⟩
  · exact ⟨rfl, rfl⟩
  · exact ⟨rfl, rfl⟩
  · exact ⟨rfl, ht⟩
theorem bad_odd {N : Net} (h : NDr N) : ∀ d ∈ ([.none, .tuple [], .tuple [.str "p"], .tuple [.str "p", .int (-1)], .tuple [.str "p", .int 4], .tuple [.str "zz", .int 0], .tuple [.str "p", .bool true], .list [.str "p", .int 0], .str "P"] : List D), isSpot N d = false ∧ isIn N.ws d = false ∧ sz d = true := by
  intro d hd
  have l3 := len_le3 h "p"
  simp only [List.mem_cons, List.not_mem_nil, or_false] at hd
  rcases hd with rfl | rfl | rfl | rfl | rfl | rfl | rfl | rfl | rfl
  · exact ⟨rfl, rfl, rfl⟩
  · exact ⟨rfl, rfl, rfl⟩
  · exact ⟨rfl, rfl, rfl⟩
  · exact ⟨by simp [isSpot, isWhole], rfl, rfl⟩
  · refine ⟨?_, rfl, rfl⟩
    have : isWhole (.int 4) 0 ((N.len (strD (.str "p")) : Int) - 1) = false := by
      have : strD (.str "p") = "p" := rfl
      rw [this]
      simp [isWhole, PyData.isInt, PyData.isBool]
      omega
    rw [isSpot, this, Bool.and_false]
  · refine ⟨?_, rfl, rfl⟩
    have : isIn N.ns (.str "zz") = false := decide_eq_false (not_ns h (by decide))
    rw [isSpot, this]; rfl
  · refine ⟨?_, rfl, rfl⟩
    have : ∀ i, isWhole (.bool true) 0 i = false := fun _ => rfl
    rw [isSpot, this, Bool.and_false]
  · exact ⟨rfl, rfl, rfl⟩
  · refine ⟨rfl, ?_, rfl⟩
    refine decide_eq_false ?_
    rw [h.wn]
    exact fun e => absurd (List.mem_of_mem_take e) (by decide)
theorem bad_st {N : Net} (h : NDr N) {f : Str → List D} (hf : SOk N f) : ∀ st ∈ ([.none, .tuple [], .tuple (N.ns.map fun n => PyData.tuple (f n)).tail, .list (N.ns.map fun n => .tuple (f n))] : List D), stOf (N.P.map eP) st = false ∧ sz st = true := by
  intro st hst
  have hk := h.toNOk
  have hrow := hf.Tm hk
  have hpl := hk.p1
  have hp6 := hk.p6
  have hrs : szAll (N.ns.map fun n => PyData.tuple (f n)) = true := (sz_tuple hrow.2.2).2
  have hl : (N.ns.map fun n => PyData.tuple (f n)).length = N.P.length := by rw [List.length_map, len_ns]
  simp only [List.mem_cons, List.not_mem_nil, or_false] at hst
  have hlt : ∀ xs : List D, xs.length ≤ 1000000 → (∀ x ∈ xs, sz x = true) → sz (.tuple xs) = true := fun xs h1 h2 => by
    rw [sz, decide_eq_true h1, szAll_all h2]; rfl
  have hm : ∀ x ∈ (N.ns.map fun n => PyData.tuple (f n)), sz x = true := fun x hx => szAll_mem hrs hx
  rcases hst with rfl | rfl | rfl | rfl
  · exact ⟨rfl, rfl⟩
  · exact ⟨st_len (by simp; omega), rfl⟩
  · exact ⟨st_len (by rw [List.length_tail, hl, List.length_map]; omega), hlt _ (by rw [List.length_tail, hl]; omega) fun x hx => hm x (List.mem_of_mem_tail hx)⟩
  · refine ⟨rfl, ?_⟩
    rw [sz, hrs, decide_eq_true (by rw [hl]; omega)]; rfl
theorem K05refused_ok {gd gno gis : List D → R D} {jd jno jis : Nat} (hd : P__law_drawn gd) (hno : K05no gno) (his : P_is_run gis) : K05refused (runF 4 10 (Bk05__law_refused jd gd jno gno jis gis)) := by
  intro sc hsc N hN f hf rs hr hn
  have hk := hN.toNOk
  obtain ⟨r1, a0, a1, ea⟩ := hd sc hsc 200 8 (by omega) (by omega) (by omega)
  obtain ⟨r2, b0, b1, eb⟩ := hd sc hsc 201 9 (by omega) (by omega) (by omega)
  obtain ⟨r3, c0, c1, ec⟩ := hd sc hsc 202 4 (by omega) (by omega) (by omega)
  obtain ⟨ru, hru, eru⟩ := pick (xs := [.none, .tuple [], .list [.none], .list [.tuple [.str "zz", .str "x"]], .list [.tuple [.str "a", .str "X"]], .list [.tuple [.str "a"]], .list [.list [.str "a", .str "x"]], .tuple (rs.map ePush)]) a0 (by simpa using a1)
  obtain ⟨od, hod, eod⟩ := pick (xs := [.none, .tuple [], .tuple [.str "p"], .tuple [.str "p", .int (-1)], .tuple [.str "p", .int 4], .tuple [.str "zz", .int 0], .tuple [.str "p", .bool true], .list [.str "p", .int 0], .str "P"]) b0 (by simpa using b1)
  obtain ⟨st, hst, est⟩ := pick (xs := [.none, .tuple [], .tuple (N.ns.map fun n => PyData.tuple (f n)).tail, .list (N.ns.map fun n => .tuple (f n))]) c0 (by simpa using c1)
  have bru := bad_run hN hr hn ru hru
  have bod := bad_odd hN od hod
  have bst := bad_st hN hf st hst
  have n1 : sz (.tuple [.tuple (N.P.map eP)]) = true ∧ fine (.tuple [.tuple (N.P.map eP)]) = true := by
    have t := (eN_parts hk).1
    have t2 := Tm_tuple (k := 4) (xs := [.tuple (N.P.map eP)]) (by simp) fun x hx => by
      rw [List.mem_singleton] at hx
      subst hx
      exact t
    exact ⟨t2.2.2, Tm_fine t2 (by omega)⟩
  have f1 : dSli (eN N) none (some 1) = .ok (.tuple [.tuple (N.P.map eP)]) := rfl
  have f2 : dSli (eF N f) (some 1) none = .ok (.tuple (N.ns.map fun n => PyData.tuple (f n)).tail) := by rw [eF, dSli_T, cut_1]
  have f3 : dBlt .list [eF N f] = .ok (.list (N.ns.map fun n => PyData.tuple (f n))) := rfl
  have f4 : dBlt .tuple [eRun rs] = .ok (.tuple (rs.map ePush)) := rfl
  have q0 : ∀ i : Int, i = 0 ∨ i = 1 ∨ i = 2 ∨ i = 3 ∨ i = 4 ∨ i = 5 → gno [.int i, .tuple [.tuple (N.P.map eP)], st, ru, od] = .ok (.int 0) := fun i hi => hno.net i hi _ st ru od n1.1 n1.2 rfl
  have q1 : ∀ i : Int, i = 0 ∨ i = 1 → gno [.int i, eN N, st, ru, od] = .ok (.int 1) := fun i hi => hno.st i hi N hk st ru od bst.2 bst.1
  have q2 : ∀ i : Int, i = 0 ∨ i = 1 ∨ i = 2 ∨ i = 3 → gno [.int i, eN N, eF N f, ru, od] = .ok (.int 2) := fun i hi => hno.run i hi N hk f hf ru od bru.2 bru.1
  have q3 : ∀ i : Int, i = 1 ∨ i = 5 → gno [.int i, eN N, eF N f, eRun rs, od] = .ok (.int 4) := fun i hi => hno.way i hi N hk f hf rs hr hn od bod.2.2 bod.2.1
  have q4 : ∀ i : Int, i = 2 ∨ i = 3 → gno [.int i, eN N, eF N f, eRun rs, od] = .ok (.int 3) := fun i hi => hno.spot i hi N hk f hf rs hr hn od bod.2.2 bod.1
  have m1 : dBin .mul (.list [.int 0]) (.int 6) = .ok (.list [.int 0, .int 0, .int 0, .int 0, .int 0, .int 0]) := rfl
  have m2 : dBin .mul (.list [.int 2]) (.int 4) = .ok (.list [.int 2, .int 2, .int 2, .int 2]) := rfl
  have e1 : dEq (.list [.int 0, .int 0, .int 0, .int 0, .int 0, .int 0, .int 1, .int 1, .int 2, .int 2, .int 2, .int 2, .int 4, .int 3, .int 3, .int 4]) (.list [.int 0, .int 0, .int 0, .int 0, .int 0, .int 0, .int 1, .int 1, .int 2, .int 2, .int 2, .int 2, .int 4, .int 3, .int 3, .int 4]) = .ok true := rfl
  have i1 := his.1 N hk ru bru.2
  have i2 := his.1 N hk _ (eRun_Tm hk hr hn).2.2
  rw [bru.1] at i1
  rw [eRun_is hr hn] at i2
  rw [run1 (np := 4) rfl]
  simp -implicitDefEqProofs [Bk05__law_refused, f1, f2, f3, f4, ea, eb, ec, eru, eod, est, rng_6, rng_2, rng_4, q0 0 (by simp), q0 1 (by simp), q0 2 (by simp), q0 3 (by simp), q0 4 (by simp), q0 5 (by simp), q1 0 (by simp), q1 1 (by simp), q2 0 (by simp), q2 1 (by simp), q2 2 (by simp), q2 3 (by simp), q3 1 (by simp), q3 5 (by simp), q4 2 (by simp), q4 3 (by simp), m1, m2, e1, i1, i2]
end Fp

set_option Elab.async false
set_option linter.all false
set_option maxRecDepth 100000
set_option maxHeartbeats 1000000
namespace Fp
open PySem L2
/-- [(pipe[0], row.index(m)) for pipe, row in zip(net[0], h) if m in row] -/
theorem place_ev {N : Net} {h : Str → List D} {m : D} {S M : Nat} {env : Env} (hp6 : N.P.length ≤ 6) (hl : env.length = 22) (h1 : env[1]? = some (.val (eN N))) (hS : env[S]? = some (.val (eF N h))) (hM : env[M]? = some (.val m)) (s7 : S ≠ 7) (s21 : S ≠ 21) (m7 : M ≠ 7) (m21 : M ≠ 21)
    (hf : ∀ p ∈ N.P, fine (.list (h p.1)) = true ∧ fine (.tuple (h p.1)) = true) (hm : fine m = true) :
    evE (.lc [21, 7] (.t2 (.nm 21) (.nm 7)) (.zip (.idx (.slot 1) (.cst (.int 0))) (.slot S)) (.one (.cmp .isin (.slot M) (.slot 7))) (.tup (.cons (.idx (.slot 21) (.cst (.int 0))) (.cons (.met .index (.slot 7) (.cons (.slot M) .nil)) .nil)))) env =
      .ok (.list ((N.P.filter fun p => (h p.1).any fun z => PyData.eqv z m).map fun p => .tuple [.str p.1, .int ((h p.1).findIdx fun z => PyData.eqv z m : Nat)])) := by
  refine ev_lcfM (xs := N.P) (c := fun p => .tuple [eP p, .tuple (h p.1)]) (p := fun p => (h p.1).any fun z => PyData.eqv z m) (g := fun p => .tuple [.str p.1, .int ((h p.1).findIdx fun z => PyData.eqv z m : Nat)]) ?_ (by omega) fun p hp => ?_
  · rw [evIt, ev_idx' (ev_slot h1) ev_cst (eN_0 N), R.bind_ok, ev_slot hS, R.bind_ok]
    show R.ok (zipD _ _) = _
    rw [zipM, zip_PN, List.map_map]
    rfl
  · refine ⟨(((env.set 7 .un).set 21 .un).set 21 (.val (eP p))).set 7 (.val (.tuple (h p.1))), ?_, ?_, fun hq => ?_⟩
    · simp [hl]
    · have e7 : ((((env.set 7 .un).set 21 .un).set 21 (.val (eP p))).set 7 (.val (.tuple (h p.1))))[7]? = some (.val (.tuple (h p.1))) := by simp [List.getElem?_set, hl]
      have eM : ((((env.set 7 .un).set 21 .un).set 21 (.val (eP p))).set 7 (.val (.tuple (h p.1))))[M]? = some (.val m) := by
        rw [List.getElem?_set_ne (Ne.symm m7), List.getElem?_set_ne (Ne.symm m21), List.getElem?_set_ne (Ne.symm m21), List.getElem?_set_ne (Ne.symm m7), hM]
      refine ev_cmp (ev_slot eM) (ev_slot e7) ?_
      show dIn m (.tuple (h p.1)) = _
      rw [dIn, hm, (hf p hp).2]; rfl
    · have e7 : ((((env.set 7 .un).set 21 .un).set 21 (.val (eP p))).set 7 (.val (.tuple (h p.1))))[7]? = some (.val (.tuple (h p.1))) := by simp [List.getElem?_set, hl]
      have e21 : ((((env.set 7 .un).set 21 .un).set 21 (.val (eP p))).set 7 (.val (.tuple (h p.1))))[21]? = some (.val (eP p)) := by simp [List.getElem?_set, hl]
      have eM : ((((env.set 7 .un).set 21 .un).set 21 (.val (eP p))).set 7 (.val (.tuple (h p.1))))[M]? = some (.val m) := by
        rw [List.getElem?_set_ne (Ne.symm m7), List.getElem?_set_ne (Ne.symm m21), List.getElem?_set_ne (Ne.symm m21), List.getElem?_set_ne (Ne.symm m7), hM]
      have hix : dMet .index (.list (h p.1)) [m] = .ok (.int ((h p.1).findIdx fun z => PyData.eqv z m : Nat)) := by
        have hlt := List.findIdx_lt_length_of_exists (List.any_eq_true.mp hq)
        have hpl : PySem.SeqAt.dataPlace (h p.1) m = some ((h p.1).findIdx fun z => PyData.eqv z m) := by
          unfold PySem.SeqAt.dataPlace
          rw [List.findIdx?_eq_some_of_exists (List.any_eq_true.mp hq)]
        rw [dMet, hm, (hf p hp).1, hpl]
        rfl
      refine ev_tup (evs_cons (ev_idx' (ev_slot e21) ev_cst dIdxT0) (evs1 ?_)) (by simp)
      rw [evE, ev_slot e7, R.bind_ok, sqM, R.bind_ok, evs1 (ev_slot eM), R.bind_ok, hix]
theorem rows_fine {N : Net} (h : NOk N) {V : D → Prop} {f : Str → List D} (hv : VA V N f) (ht : ∀ x, V x → Tm 1 x) (hl : LOk N f) : ∀ p ∈ N.P, fine (.list (f p.1)) = true ∧ fine (.tuple (f p.1)) = true := fun p hp => by
  have h4 := (h.ln p hp).2
  have e := hl p hp
  have h1 : ∀ x ∈ f p.1, Tm 1 x := fun x hx => ht x (VA_at hv hp x hx)
  exact ⟨Tm_fine (Tm_list (k := 1) (by omega) h1) (by omega), Tm_fine (Tm_tuple (k := 1) (by omega) h1) (by omega)⟩
theorem phi_Tm {N : Net} (h : NOk N) {x : D} (hx : VOk N x) : Tm 1 (phi N x) := by
  rcases hx with ⟨s, hs, rfl⟩ | ⟨k, rfl⟩
  · obtain ⟨k, hk, e⟩ := phi_str h hs
    rw [e]
    exact Tm_name (uS_name k hk) _
  · exact Tm_int
theorem zipIdx_at {α : Type} {xs : List α} {p : α × Nat} (h : p ∈ xs.zipIdx) : xs[p.2]? = some p.1 := by
  have := List.mem_zipIdx_iff_getElem?.mp h
  exact this
theorem row_at {N : Net} {f : Str → List D} {k : Nat} {p : Str × Nat} (h : N.P[k]? = some p) : dIdx (eF N f) (.int (k : Nat)) = .ok (.tuple (f p.1)) := by
  refine idxT_nat ?_
  rw [Net.ns, List.map_map, List.getElem?_map, h]
  rfl
theorem unF_fok {N : Net} (h : NOk N) : FOk N (unF N) := by
  constructor
  · intro n hn e
    obtain ⟨p, hp, rfl⟩ := List.mem_map.mp hn
    have h1 := (h.ln p hp).1
    have h2 := unF_len h p hp
    rw [e] at h2
    simp at h2
    omega
  · intro n hn
    obtain ⟨p, hp, rfl⟩ := List.mem_map.mp hn
    have h1 := (h.ln p hp).2
    have h2 := unF_len h p hp
    omega
theorem K05_ok {gn gr gs gw gb go gd gu gwh gwc gre : List D → R D} {jn jr js jw jb jo jd ju jwh jwc jre : Nat} (hn : P__law_net gn) (hr : K05run gr) (hs : P__law_state gs) (hw : P__law_went gw) (hb : P_behind gb) (ho : P_outs_of go) (hd : P_delay gd)
    (hu : P__law_unlike gu) (hwh : P_where gwh) (hwc : P_whence gwc) (hre : K05refused gre) {sc : D} (hsc : Sc sc) : runF 1 22 (Bk05_law jn gn jr gr js gs jw gw jb gb jo go jd gd ju gu jwh gwh jwc gwc jre gre) [sc] = .ok (.bool true) := by
  obtain ⟨N, hN, eN'⟩ := hn sc 10 hsc (by omega) (by omega)
  obtain ⟨f, hf, eF'⟩ := hs sc 60 hsc (by omega) (by omega) N hN
  obtain ⟨rs, hok, hnm, hl1, eR'⟩ := hr sc 80 9 hsc (by omega) (by omega) (by omega) (by omega) N hN
  have hk := hN.toNOk
  have hp6 := hk.p6
  have hw8 := hk.w8
  have hgo := goF_S hk hf hok hnm
  have hgl : (goF f rs).2.length ≤ 1000 := by rw [goF_len]; exact hl1
  have fin1 : fine (.tuple [eF N (goF f rs).1, eOuts (goF f rs).2]) = true :=
    Tm_fine (Tm_tuple (k := 2) (by simp) (two (hgo.1.Tm hk) (eOuts_Tm hk (by omega) hgo.2))) (by omega)
  have hb1 := hb.1 N hk f hf rs hok hnm
  have hw1 := hw N hk f (hf.fok hk) rs hok
  rw [run1 (np := 1) rfl]
  unfold Bk05_law
  simp -implicitDefEqProofs [eN', eF', eR', hw1, hb1, ne_self fin1, eN_1, eW]
  refine for_same (Q := fun fl => fl.out = _) (fun env => ∃ s6 s7, env = [.val sc, .val (eN N), .val (eF N f), .val (eRun rs), .val (eF N (goF f rs).1), .val (eOuts (goF f rs).2), s6, s7, .un, .un, .un, .un, .un, .un, .un, .un, .un, .un, .un, .un, .un, .un]) ⟨_, _, rfl⟩ ?_ ?_
  · rintro w hw' env ⟨s6, s7, rfl⟩
    have hwm : w.1 ∈ N.ws := List.mem_map.mpr ⟨w, hw', rfl⟩
    have ho1 := ho.1 N hk f hf rs hok hnm w.1 hwm
    have hd1 := hd.1 N hk w hw'
    have es : ∀ a b : Str, dEq (.str a) (.str b) = .ok (decide (a = b)) := fun _ _ => rfl
    have hgl2 : (goF f rs).2.length ≤ 16777216 := by omega
    have hfi : fine (.list (((goF f rs).2.filter fun o => decide (o.1 = w.1)).map (·.2))) = true := by
      refine Tm_fine (Tm_list (k := 0) (filt_len _ _ _ (by omega)) fun x hx => ?_) (by omega)
      obtain ⟨o, ho', rfl⟩ := List.mem_map.mp hx
      exact Tm_name (hgo.2 o (List.mem_filter.mp ho').1).2 _
    have hl : w.2.length ≤ 16777216 := by have := (hk.rw w hw').2.1; omega
    have hg : ∀ n ∈ w.2, dGet false (dP N) (.str n) = .ok (.int (N.len n)) := fun n hn => dP_get hk ((hk.rw w hw').2.2.2 n hn)
    have eo : eOuts (goF f rs).2 = .list ((goF f rs).2.map eOut) := rfl
    simp +contextual -implicitDefEqProofs [forF, eW, ho1, hd1, eo, eOut, es, hgl2, ne_self hfi, eR, eN_0, dP_of hk, hg, hl]
  · rintro env ⟨s6, s7, rfl⟩
    have hgu := hw N hk (unF N) (unF_fok hk) (numR rs) (numR_ok hok)
    · have e : PyData.list (rs.zipIdx.map fun p => .tuple [.str p.1.1.1, .int (p.2 : Nat)]) = eRun (numR rs) := by
        unfold eRun numR
        rw [List.map_map]
        rfl
      have e2 : eRun rs = .list (rs.map ePush) := rfl
      have hl3 : rs.zipIdx.length ≤ 16777216 := by rw [List.length_zipIdx]; omega
      have hl0 : rs.length ≤ 16777216 := by omega
      have hl4 : (trF N rs).2.length ≤ 16777216 := by rw [trF, goF_len, numR, List.length_map, List.length_zipIdx]; omega
      rw [told_phi hk] at hgu
      have eo : eOuts (mapGS (phi N) (trF N rs)).2 = .list ((trF N rs).2.map fun o => .tuple [.str o.1, phi N o.2]) := by
        unfold eOuts mapGS
        rw [List.map_map]
        rfl
      rw [eo] at hgu
      simp -implicitDefEqProofs [hu N hk, e2, ePush, hl3, hl0, e, hgu, hl4, eN_0, eP]
      have hv := trF_V hk hok
      have hl := trF_L hk hok
      refine for_same (Q := fun fl => fl.out = _) (fun env => ∃ t6 t7 t10 t14 t15 t16 t17 t18 t19 t20 t21, env = [.val sc, .val (eN N), .val (eF N f), .val (.list (rs.map ePush)), .val (eF N (goF f rs).1), .val (eOuts (goF f rs).2), t6, t7, .un, .val (.list ((trF N rs).2.map fun o => phi N o.2)), t10, .val (eF N (unF N)), .val (eF N (mapGS (phi N) (trF N rs)).1), .val (.list ((trF N rs).2.map fun o => .tuple [.str o.1, phi N o.2])), t14, t15, t16, t17, t18, t19, t20, t21]) ⟨_, _, _, _, _, _, _, _, _, _, _, rfl⟩ ?_ ?_
      · rintro ⟨p, k⟩ hpk env ⟨t6, t7, t10, t14, t15, t16, t17, t18, t19, t20, t21, rfl⟩
        have hat := zipIdx_at hpk
        have hpm := List.mem_of_getElem? hat
        have h4 := (hk.ln p hpm).2
        have hrn : rng (.int 0) (.int (p.2 : Nat)) = .ok (rgD p.2) := rng_nat (by omega)
        simp -implicitDefEqProofs [forF, hrn, -rng_nat, rgD]
        refine for_same (Q := fun fl => Nx fl _) (fun env => ∃ t6 t7 t17 t18 t19 t20 t21, env = [.val sc, .val (eN N), .val (eF N f), .val (.list (rs.map ePush)), .val (eF N (goF f rs).1), .val (eOuts (goF f rs).2), t6, t7, .un, .val (.list ((trF N rs).2.map fun o => phi N o.2)), .val (.str p.1), .val (eF N (unF N)), .val (eF N (mapGS (phi N) (trF N rs)).1), .val (.list ((trF N rs).2.map fun o => .tuple [.str o.1, phi N o.2])), .val (.int k), t15, .val (.int p.2), t17, t18, t19, t20, t21]) ⟨_, _, _, _, _, _, _, rfl⟩ ?_ ?_
        · rintro i hi env ⟨t6, t7, t17, t18, t19, t20, t21, rfl⟩
          rw [List.mem_range] at hi
          have hs : ((p.1, i) : Spot) ∈ N.spots := mem_spots.mpr ⟨p, hpm, rfl, hi⟩
          have hvo : ∀ o ∈ (trF N rs).2, VOk N o.2 := hv.2
          have ra : dIdx (eF N (unF N)) (.int (k : Nat)) = .ok (.tuple (unF N p.1)) := row_at hat
          have rb : dIdx (eF N (mapGS (phi N) (trF N rs)).1) (.int (k : Nat)) = .ok (.tuple (((trF N rs).1 p.1).map (phi N))) := row_at hat
          have ma : dIdx (.tuple (unF N p.1)) (.int (i : Nat)) = .ok (phi N (eS (p.1, i))) := idxT_nat (by
            have : i < (unF N p.1).length := by rw [unF_len hk p hpm]; exact hi
            rw [phi_spot, List.getElem?_eq_getElem this]; rfl)
          have mb : dIdx (.tuple (((trF N rs).1 p.1).map (phi N))) (.int (i : Nat)) = .ok (phi N (atF (trF N rs).1 (p.1, i))) := idxT_nat (by
            have : i < ((trF N rs).1 p.1).length := by rw [hl p hpm]; exact hi
            rw [List.getElem?_map, atF, List.getElem?_eq_getElem this]; rfl)
          have hm1 : Tm 1 (phi N (eS (p.1, i))) := phi_Tm hk (.inl ⟨_, hs, rfl⟩)
          have hmf : fine (phi N (eS (p.1, i))) = true := Tm_fine hm1 (by omega)
          have hof : fine (.list ((trF N rs).2.map fun o => phi N o.2)) = true := by
            refine Tm_fine (Tm_list (k := 1) (by rw [List.length_map, trF, goF_len, numR, List.length_map, List.length_zipIdx]; omega) fun x hx => ?_) (by omega)
            obtain ⟨o, ho', rfl⟩ := List.mem_map.mp hx
            exact phi_Tm hk (hvo o ho')
          have hin : dIn (phi N (eS (p.1, i))) (.list ((trF N rs).2.map fun o => phi N o.2)) = .ok (((trF N rs).2.map fun o => phi N o.2).any fun z => PyData.eqv z (phi N (eS (p.1, i)))) := by
            rw [dIn, hof, hmf]; rfl
          have hix : dMet .index (.list ((trF N rs).2.map fun o => phi N o.2)) [phi N (eS (p.1, i))] = (ofO (PySem.SeqAt.dataPlace ((trF N rs).2.map fun o => phi N o.2) (phi N (eS (p.1, i))))).bind fun j => .ok (.int (j : Nat)) := by
            rw [dMet, hof, hmf]; rfl
          have hwh1 := hwh.ok N hk rs hok hnm (p.1, i) hs
          have hwc1 := hwc.ok N hk rs hok hnm (p.1, i) hs
          have eSp : eS (p.1, i) = .tuple [.str p.1, .int (i : Nat)] := rfl
          have hmap : VA (fun x => Tm 1 x) N fun n => ((trF N rs).1 n).map (phi N) := fun n hn x hx => by
            obtain ⟨y, hy, rfl⟩ := List.mem_map.mp hx
            exact phi_Tm hk (hv.1 n hn y hy)
          have hun : VA (fun x => Tm 1 x) N (unF N) := fun n hn x hx => by
            rw [unF_mk hk] at hx
            obtain ⟨y, hy, rfl⟩ := List.mem_map.mp hx
            exact phi_Tm hk (mkF_V hk n hn y hy)
          have rf1 := rows_fine hk hmap (fun _ h => h) (fun q hq => by rw [List.length_map]; exact hl q hq)
          have rf2 := rows_fine hk hun (fun _ h => h) (unF_len hk)
          have pe1 := fun (t20 t21 : Slot) => place_ev (N := N) (h := fun n => ((trF N rs).1 n).map (phi N)) (m := phi N (eS (p.1, i))) (S := 12) (M := 18)
            (env := [.val sc, .val (eN N), .val (eF N f), .val (.list (rs.map ePush)), .val (eF N (goF f rs).1), .val (eOuts (goF f rs).2), t6, t7, .un, .val (.list ((trF N rs).2.map fun o => phi N o.2)), .val (.str p.1), .val (eF N (unF N)), .val (eF N (mapGS (phi N) (trF N rs)).1), .val (.list ((trF N rs).2.map fun o => .tuple [.str o.1, phi N o.2])), .val (.int k), t15, .val (.int p.2), .val (.int i), .val (phi N (eS (p.1, i))), .val (phi N (atF (trF N rs).1 (p.1, i))), t20, t21])
            hp6 rfl rfl rfl rfl (by omega) (by omega) (by omega) (by omega) rf1 hmf
          have pe2 := fun (t20 t21 : Slot) (t : Spot) (ht : t ∈ N.spots) => place_ev (N := N) (h := unF N) (m := phi N (eS t)) (S := 11) (M := 19)
            (env := [.val sc, .val (eN N), .val (eF N f), .val (.list (rs.map ePush)), .val (eF N (goF f rs).1), .val (eOuts (goF f rs).2), t6, t7, .un, .val (.list ((trF N rs).2.map fun o => phi N o.2)), .val (.str p.1), .val (eF N (unF N)), .val (eF N (mapGS (phi N) (trF N rs)).1), .val (.list ((trF N rs).2.map fun o => .tuple [.str o.1, phi N o.2])), .val (.int k), t15, .val (.int p.2), .val (.int i), .val (phi N (eS (p.1, i))), .val (phi N (eS t)), t20, t21])
            hp6 rfl rfl rfl rfl (by omega) (by omega) (by omega) (by omega) rf2 (Tm_fine (phi_Tm hk (.inl ⟨t, ht, rfl⟩)) (by omega))
          rw [e2, eSp] at hwh1 hwc1
          have hst : ∀ t ∈ N.spots, isTy .str (phi N (eS t)) = true := fun t ht => by
            obtain ⟨a, _, ea⟩ := phi_str hk ht
            rw [ea]; rfl
          rcases where_due hk hok hs with ⟨j, hj, hwr⟩ | ⟨hj, q, hq, hfd, hwr⟩ <;> rcases atF_V hv.1 hl hs with ⟨t, ht, hat2⟩ | ⟨c, hat2⟩
          · have hany : (((trF N rs).2.map fun o => phi N o.2).any fun z => PyData.eqv z (phi N (eS (p.1, i)))) = true := by
              obtain ⟨hj2, e3, _⟩ := List.findIdx?_eq_some_iff_getElem.mp hj
              exact List.any_eq_true.mpr ⟨_, List.getElem_mem _, e3⟩
            have hne1 : notR (dEq (.int (j : Nat)) (.int (j : Nat))) = .ok false := ne_self rfl
            obtain ⟨q2, hq2, hfd2, et⟩ := spot_mark hk ht
            have hne2 := ne_self (Tm_fine (eS_Tm hk ht) (by omega))
            rw [hat2] at pe1 mb hwc1
            simp -implicitDefEqProofs [forF, ra, rb, ma, mb, hin, hany, hwh1, hwr, hne1, hwc1, hne2, hix, hj, ofO, hst t ht, pe2 _ _ t ht, -e_lc, idx0_filter, hfd2, ← et]
          · have hany : (((trF N rs).2.map fun o => phi N o.2).any fun z => PyData.eqv z (phi N (eS (p.1, i)))) = true := by
              obtain ⟨hj2, e3, _⟩ := List.findIdx?_eq_some_iff_getElem.mp hj
              exact List.any_eq_true.mpr ⟨_, List.getElem_mem _, e3⟩
            have hne1 : notR (dEq (.int (j : Nat)) (.int (j : Nat))) = .ok false := ne_self rfl
            have hne2 : notR (dEq (.int (c : Nat)) (.int (c : Nat))) = .ok false := ne_self rfl
            rw [hat2, phi_int] at pe1 mb
            rw [hat2] at hwc1
            have hst0 : isTy .str (.int (c : Nat)) = false := rfl
            simp -implicitDefEqProofs [forF, ra, rb, ma, mb, hin, hany, hwh1, hwr, hne1, hwc1, hne2, hix, hj, ofO, hst0]
          · have hany : (((trF N rs).2.map fun o => phi N o.2).any fun z => PyData.eqv z (phi N (eS (p.1, i)))) = false := by
              rw [List.any_eq_false]
              exact fun x hx => by
                have := List.findIdx?_eq_none_iff.mp hj x hx
                simp [this]
            have hne1 := ne_self (Tm_fine (Tm_tuple (k := 1) (xs := [.str q.1, .int ((((trF N rs).1 q.1).map (phi N)).findIdx fun z => PyData.eqv z (phi N (eS (p.1, i))) : Nat)]) (by simp) (two (Tm_name (hk.nm _ (List.mem_map.mpr ⟨q, hq, rfl⟩)) _) Tm_int)) (by omega))
            obtain ⟨q2, hq2, hfd2, et⟩ := spot_mark hk ht
            have hne2 := ne_self (Tm_fine (eS_Tm hk ht) (by omega))
            rw [hat2] at pe1 mb hwc1
            simp -implicitDefEqProofs [forF, ra, rb, ma, mb, hin, hany, hwh1, hwr, hne1, hwc1, hne2, pe1, -e_lc, -List.any_map, -List.findIdx_map, idx0_filter, hfd, ofO, hst t ht, pe2 _ _ t ht, hfd2, ← et]
          · have hany : (((trF N rs).2.map fun o => phi N o.2).any fun z => PyData.eqv z (phi N (eS (p.1, i)))) = false := by
              rw [List.any_eq_false]
              exact fun x hx => by
                have := List.findIdx?_eq_none_iff.mp hj x hx
                simp [this]
            have hne1 := ne_self (Tm_fine (Tm_tuple (k := 1) (xs := [.str q.1, .int ((((trF N rs).1 q.1).map (phi N)).findIdx fun z => PyData.eqv z (phi N (eS (p.1, i))) : Nat)]) (by simp) (two (Tm_name (hk.nm _ (List.mem_map.mpr ⟨q, hq, rfl⟩)) _) Tm_int)) (by omega))
            have hne2 : notR (dEq (.int (c : Nat)) (.int (c : Nat))) = .ok false := ne_self rfl
            rw [hat2, phi_int] at pe1 mb
            rw [hat2] at hwc1
            have hst0 : isTy .str (.int (c : Nat)) = false := rfl
            simp -implicitDefEqProofs [forF, ra, rb, ma, mb, hin, hany, hwh1, hwr, hne1, hwc1, hne2, pe1, -e_lc, -List.any_map, -List.findIdx_map, idx0_filter, hfd, ofO, hst0]
        · rintro env ⟨t6, t7, t17, t18, t19, t20, t21, rfl⟩
          simp
      · rintro env ⟨t6, t7, t10, t14, t15, t16, t17, t18, t19, t20, t21, rfl⟩
        have := hre sc hsc N hN f hf rs hok hnm
        rw [e2] at this
        simp [this]
end Fp

namespace Lk05
open PySem Fp
abbrev prg : Program := PySem.Challenge.pw_fullpipes_k05_runs
def top (i : Nat) : Stmt := prg.main.body.getD i (.Pass ⟨0, 0, 0, 0⟩)
def exs : List Str := [("NoNet" : Str), ("NoRun" : Str), ("NoSpot" : Str), ("NoState" : Str), ("NoWay" : Str), ("PipeError" : Str)]
def b0 : Ss := B__law_drawn
def f0 : List D → R D := runF 3 6 b0 -- _law_drawn
def t0 : Dt := ⟨"_law_drawn", top 49, [("_law_script" : Str), ("_law_k" : Str), ("_law_many" : Str)], [("_law_script" : Str), ("_law_k" : Str), ("_law_many" : Str), ("_law_cell" : Str), ("_law_turn" : Str), ("_law_rest" : Str)], b0⟩
def b1 : Ss := B__law_net 0 f0
def f1 : List D → R D := runF 2 9 b1 -- _law_net
def t1 : Dt := ⟨"_law_net", top 50, [("_law_script" : Str), ("_law_at" : Str)], [("_law_script" : Str), ("_law_at" : Str), ("_law_pipes" : Str), ("_law_k" : Str), ("_law_ways" : Str), ("_law_left" : Str), ("_law_row" : Str), ("_law_pipe" : Str), ("_law_n" : Str)], b1⟩
def b2 : Ss := B__law_push
def f2 : List D → R D := runF 5 10 b2 -- _law_push
def t2 : Dt := ⟨"_law_push", top 54, [("_law_net_here" : Str), ("_law_state_here" : Str), ("_law_way" : Str), ("_law_slug" : Str), ("_law_by" : Str)], [("_law_net_here" : Str), ("_law_state_here" : Str), ("_law_way" : Str), ("_law_slug" : Str), ("_law_by" : Str), ("_law_rows" : Str), ("_law_pipe" : Str), ("_law_row" : Str), ("_law_names" : Str), ("_law_name" : Str)], b2⟩
def b3 : Ss := B__law_went 2 f2
def f3 : List D → R D := runF 3 7 b3 -- _law_went
def t3 : Dt := ⟨"_law_went", top 55, [("_law_net_here" : Str), ("_law_state_here" : Str), ("_law_run_here" : Str)], [("_law_net_here" : Str), ("_law_state_here" : Str), ("_law_run_here" : Str), ("_law_outs" : Str), ("_law_way" : Str), ("_law_slug" : Str), ("_law_out" : Str)], b3⟩
def b4 : Ss := B__law_unlike
def f4 : List D → R D := runF 1 6 b4 -- _law_unlike
def t4 : Dt := ⟨"_law_unlike", top 52, [("_law_net_here" : Str)], [("_law_net_here" : Str), ("_law_rows" : Str), ("_law_k" : Str), ("_law_name" : Str), ("_law_length" : Str), ("_law_n" : Str)], b4⟩
def b5 : Ss := B_is_rising
def f5 : List D → R D := runF 1 3 b5 -- is_rising
def t5 : Dt := ⟨"is_rising", top 16, [("things" : Str)], [("things" : Str), ("one" : Str), ("other" : Str)], b5⟩
def b6 : Ss := B_is_whole
def f6 : List D → R D := runF 3 3 b6 -- is_whole
def t6 : Dt := ⟨"is_whole", top 14, [("thing" : Str), ("least" : Str), ("most" : Str)], [("thing" : Str), ("least" : Str), ("most" : Str)], b6⟩
def b7 : Ss := B_is_name
def f7 : List D → R D := runF 1 2 b7 -- is_name
def t7 : Dt := ⟨"is_name", top 15, [("thing" : Str)], [("thing" : Str), ("sign" : Str)], b7⟩
def b8 : Ss := B_is_pair 7 f7
def f8 : List D → R D := runF 1 1 b8 -- is_pair
def t8 : Dt := ⟨"is_pair", top 17, [("thing" : Str)], [("thing" : Str)], b8⟩
def b9 : Ss := B_are_pipes 8 f8 5 f5 6 f6
def f9 : List D → R D := runF 1 2 b9 -- are_pipes
def t9 : Dt := ⟨"are_pipes", top 18, [("thing" : Str)], [("thing" : Str), ("pipe" : Str)], b9⟩
def b10 : Ss := B_is_row 7 f7
def f10 : List D → R D := runF 2 4 b10 -- is_row
def t10 : Dt := ⟨"is_row", top 19, [("names" : Str), ("thing" : Str)], [("names" : Str), ("thing" : Str), ("at" : Str), ("name" : Str)], b10⟩
def b11 : Ss := B_is_net 9 f9 10 f10 8 f8 5 f5
def f11 : List D → R D := runF 1 6 b11 -- is_net
def t11 : Dt := ⟨"is_net", top 20, [("thing" : Str)], [("thing" : Str), ("pipes" : Str), ("ways" : Str), ("names" : Str), ("pipe" : Str), ("way" : Str)], b11⟩
def b12 : Ss := B_look_net 11 f11
def f12 : List D → R D := runF 1 1 b12 -- look_net
def t12 : Dt := ⟨"look_net", top 21, [("thing" : Str)], [("thing" : Str)], b12⟩
def b13 : Ss := B_is_state_of 7 f7
def f13 : List D → R D := runF 2 5 b13 -- is_state_of
def t13 : Dt := ⟨"is_state_of", top 22, [("net" : Str), ("thing" : Str)], [("net" : Str), ("thing" : Str), ("row" : Str), ("pipe" : Str), ("slug" : Str)], b13⟩
def b14 : Ss := B_look_state 13 f13
def f14 : List D → R D := runF 2 2 b14 -- look_state
def t14 : Dt := ⟨"look_state", top 23, [("net" : Str), ("thing" : Str)], [("net" : Str), ("thing" : Str)], b14⟩
def b15 : Ss := B_ways_in
def f15 : List D → R D := runF 1 2 b15 -- ways_in
def t15 : Dt := ⟨"ways_in", top 24, [("net" : Str)], [("net" : Str), ("way" : Str)], b15⟩
def b16 : Ss := B_is_push_of 7 f7 15 f15 8 f8
def f16 : List D → R D := runF 2 2 b16 -- is_push_of
def t16 : Dt := ⟨"is_push_of", top 28, [("net" : Str), ("thing" : Str)], [("net" : Str), ("thing" : Str)], b16⟩
def b17 : Ss := B_is_run_of 16 f16
def f17 : List D → R D := runF 2 3 b17 -- is_run_of
def t17 : Dt := ⟨"is_run_of", top 32, [("net" : Str), ("thing" : Str)], [("net" : Str), ("thing" : Str), ("push" : Str)], b17⟩
def b18 : Ss := B_look_run 17 f17
def f18 : List D → R D := runF 2 2 b18 -- look_run
def t18 : Dt := ⟨"look_run", top 34, [("net" : Str), ("thing" : Str)], [("net" : Str), ("thing" : Str)], b18⟩
def b19 : Ss := B_row_of 15 f15
def f19 : List D → R D := runF 2 2 b19 -- row_of
def t19 : Dt := ⟨"row_of", top 26, [("net" : Str), ("way" : Str)], [("net" : Str), ("way" : Str)], b19⟩
def b20 : Ss := B_pipes_in
def f20 : List D → R D := runF 1 2 b20 -- pipes_in
def t20 : Dt := ⟨"pipes_in", top 25, [("net" : Str)], [("net" : Str), ("pipe" : Str)], b20⟩
def b21 : Ss := B_plain_pushed 20 f20 19 f19
def f21 : List D → R D := runF 3 9 b21 -- plain_pushed
def t21 : Dt := ⟨"plain_pushed", top 29, [("net" : Str), ("state" : Str), ("push" : Str)], [("net" : Str), ("state" : Str), ("push" : Str), ("names" : Str), ("made" : Str), ("slug" : Str), ("pipe" : Str), ("at" : Str), ("out" : Str)], b21⟩
def b22 : Ss := B_plain_run 21 f21
def f22 : List D → R D := runF 3 6 b22 -- plain_run
def t22 : Dt := ⟨"plain_run", top 35, [("net" : Str), ("state" : Str), ("run" : Str)], [("net" : Str), ("state" : Str), ("run" : Str), ("outs" : Str), ("push" : Str), ("out" : Str)], b22⟩
def b23 : Ss := B_behind 12 f12 14 f14 18 f18 22 f22
def f23 : List D → R D := runF 3 3 b23 -- behind
def t23 : Dt := ⟨"behind", top 36, [("net" : Str), ("state" : Str), ("run" : Str)], [("net" : Str), ("state" : Str), ("run" : Str)], b23⟩
def b24 : Ss := B_look_way 15 f15 7 f7
def f24 : List D → R D := runF 2 2 b24 -- look_way
def t24 : Dt := ⟨"look_way", top 27, [("net" : Str), ("thing" : Str)], [("net" : Str), ("thing" : Str)], b24⟩
def b25 : Ss := B_outs_of 12 f12 14 f14 18 f18 24 f24 22 f22
def f25 : List D → R D := runF 4 6 b25 -- outs_of
def t25 : Dt := ⟨"outs_of", top 37, [("net" : Str), ("state" : Str), ("run" : Str), ("way" : Str)], [("net" : Str), ("state" : Str), ("run" : Str), ("way" : Str), ("one" : Str), ("out" : Str)], b25⟩
def b26 : Ss := B_is_run 12 f12 17 f17
def f26 : List D → R D := runF 2 2 b26 -- is_run
def t26 : Dt := ⟨"is_run", top 33, [("net" : Str), ("thing" : Str)], [("net" : Str), ("thing" : Str)], b26⟩
def b27 : Ss := B_delay 12 f12 24 f24 19 f19
def f27 : List D → R D := runF 2 3 b27 -- delay
def t27 : Dt := ⟨"delay", top 47, [("net" : Str), ("way" : Str)], [("net" : Str), ("way" : Str), ("pipe" : Str)], b27⟩
def b28 : Ss := B_is_spot_of 20 f20 8 f8 6 f6
def f28 : List D → R D := runF 2 2 b28 -- is_spot_of
def t28 : Dt := ⟨"is_spot_of", top 38, [("net" : Str), ("thing" : Str)], [("net" : Str), ("thing" : Str)], b28⟩
def b29 : Ss := B_look_spot 28 f28
def f29 : List D → R D := runF 2 2 b29 -- look_spot
def t29 : Dt := ⟨"look_spot", top 39, [("net" : Str), ("thing" : Str)], [("net" : Str), ("thing" : Str)], b29⟩
def b30 : Ss := B_look_asked 12 f12 18 f18 29 f29
def f30 : List D → R D := runF 3 3 b30 -- look_asked
def t30 : Dt := ⟨"look_asked", top 44, [("net" : Str), ("run" : Str), ("spot" : Str)], [("net" : Str), ("run" : Str), ("spot" : Str)], b30⟩
def b31 : Ss := B_marked
def f31 : List D → R D := runF 1 4 b31 -- marked
def t31 : Dt := ⟨"marked", top 41, [("net" : Str)], [("net" : Str), ("name" : Str), ("length" : Str), ("place" : Str)], b31⟩
def b32 : Ss := B_traced 22 f22 31 f31
def f32 : List D → R D := runF 2 8 b32 -- traced
def t32 : Dt := ⟨"traced", top 42, [("net" : Str), ("run" : Str)], [("net" : Str), ("run" : Str), ("state" : Str), ("outs" : Str), ("number" : Str), ("push" : Str), ("way" : Str), ("out" : Str)], b32⟩
def b33 : Ss := B_spots_in
def f33 : List D → R D := runF 1 4 b33 -- spots_in
def t33 : Dt := ⟨"spots_in", top 40, [("net" : Str)], [("net" : Str), ("name" : Str), ("length" : Str), ("place" : Str)], b33⟩
def b34 : Ss := B_places_of 33 f33 20 f20
def f34 : List D → R D := runF 2 3 b34 -- places_of
def t34 : Dt := ⟨"places_of", top 43, [("net" : Str), ("state" : Str)], [("net" : Str), ("state" : Str), ("spot" : Str)], b34⟩
def b35 : Ss := B_where 30 f30 32 f32 34 f34
def f35 : List D → R D := runF 3 7 b35 -- where
def t35 : Dt := ⟨"where", top 45, [("net" : Str), ("run" : Str), ("spot" : Str)], [("net" : Str), ("run" : Str), ("spot" : Str), ("state" : Str), ("outs" : Str), ("place" : Str), ("mark" : Str)], b35⟩
def b36 : Ss := B_whence 30 f30 34 f34 32 f32
def f36 : List D → R D := runF 3 3 b36 -- whence
def t36 : Dt := ⟨"whence", top 46, [("net" : Str), ("run" : Str), ("spot" : Str)], [("net" : Str), ("run" : Str), ("spot" : Str)], b36⟩
def b37 : Ss := Bk05__law_no exs 23 f23 25 f25 35 f35 36 f36 26 f26 27 f27
def f37 : List D → R D := runF 5 7 b37 -- _law_no
def t37 : Dt := ⟨"_law_no", top 56, [("_law_way" : Str), ("_law_net_here" : Str), ("_law_state_here" : Str), ("_law_run_here" : Str), ("_law_one" : Str)], [("_law_way" : Str), ("_law_net_here" : Str), ("_law_state_here" : Str), ("_law_run_here" : Str), ("_law_one" : Str), ("e" : Str), ("_law_flags" : Str)], b37⟩
def b38 : Ss := Bk05__law_refused 0 f0 37 f37 26 f26
def f38 : List D → R D := runF 4 10 b38 -- _law_refused
def t38 : Dt := ⟨"_law_refused", top 57, [("_law_script" : Str), ("_law_net_here" : Str), ("_law_state_here" : Str), ("_law_run_here" : Str)], [("_law_script" : Str), ("_law_net_here" : Str), ("_law_state_here" : Str), ("_law_run_here" : Str), ("_law_bad" : Str), ("_law_no_run" : Str), ("_law_odd" : Str), ("_law_no_state" : Str), ("_law_told" : Str), ("_law_way" : Str)], b38⟩
def b39 : Ss := B__law_state 0 f0
def f39 : List D → R D := runF 3 8 b39 -- _law_state
def t39 : Dt := ⟨"_law_state", top 51, [("_law_script" : Str), ("_law_at" : Str), ("_law_net_here" : Str)], [("_law_script" : Str), ("_law_at" : Str), ("_law_net_here" : Str), ("_law_rows" : Str), ("_law_k" : Str), ("_law_name" : Str), ("_law_length" : Str), ("_law_n" : Str)], b39⟩
def b40 : Ss := Bk05__law_run 0 f0
def f40 : List D → R D := runF 4 8 b40 -- _law_run
def t40 : Dt := ⟨"_law_run", top 53, [("_law_script" : Str), ("_law_at" : Str), ("_law_net_here" : Str), ("_law_most" : Str)], [("_law_script" : Str), ("_law_at" : Str), ("_law_net_here" : Str), ("_law_most" : Str), ("_law_many" : Str), ("_law_found" : Str), ("_law_k" : Str), ("_law_way" : Str)], b40⟩
def b41 : Ss := Bk05_law 1 f1 40 f40 39 f39 3 f3 23 f23 25 f25 27 f27 4 f4 35 f35 36 f36 38 f38
def f41 : List D → R D := runF 1 22 b41 -- law
def t41 : Dt := ⟨"law", top 58, [("_law_script" : Str)], [("_law_script" : Str), ("_law_net_here" : Str), ("_law_state_here" : Str), ("_law_run_here" : Str), ("_law_there" : Str), ("_law_outs" : Str), ("_law_way" : Str), ("_law_row" : Str), ("_law_one" : Str), ("_law_out" : Str), ("_law_name" : Str), ("_law_marks" : Str), ("_law_told" : Str), ("_law_shown" : Str), ("_law_k" : Str), ("_law_push_here" : Str), ("_law_length" : Str), ("_law_place" : Str), ("_law_mark" : Str), ("_law_here" : Str), ("_law_due" : Str), ("_law_pipe" : Str)], b41⟩
def L : Lw := ⟨[t0, t1, t2, t3, t4, t5, t6, t7, t8, t9, t10, t11, t12, t13, t14, t15, t16, t17, t18, t19, t20, t21, t22, t23, t24, t25, t26, t27, t28, t29, t30, t31, t32, t33, t34, t35, t36, t37, t38, t39, t40, t41], [("all" : Str), ("bool" : Str), ("dict" : Str), ("enumerate" : Str), ("int" : Str), ("isinstance" : Str), ("len" : Str), ("list" : Str), ("min" : Str), ("range" : Str), ("str" : Str), ("sum" : Str), ("tuple" : Str), ("zip" : Str)], [("LONGEST", 4), ("MOST_LENGTH", 4), ("MOST_PIPES", 6), ("MOST_ROW", 4), ("MOST_RUN", 3000), ("MOST_WAYS", 8)], [("SMALL", "abcdefghijklmnopqrstuvwxyz")], exs⟩
theorem L_chk : okAll L.gx 0 L.dts = true := by kernel_rfl
theorem L_bnd : AllD Dt.binds L.dts := ⟨fun _ _ _ _ _ _ us hl => match us, hl with | [_, _, _], _ => rfl, fun _ _ _ _ _ _ us hl => match us, hl with | [_, _], _ => rfl, fun _ _ _ _ _ _ us hl => match us, hl with | [_, _, _, _, _], _ => rfl, fun _ _ _ _ _ _ us hl => match us, hl with | [_, _, _], _ => rfl, fun _ _ _ _ _ _ us hl => match us, hl with | [_], _ => rfl, fun _ _ _ _ _ _ us hl => match us, hl with | [_], _ => rfl, fun _ _ _ _ _ _ us hl => match us, hl with | [_, _, _], _ => rfl, fun _ _ _ _ _ _ us hl => match us, hl with | [_], _ => rfl, fun _ _ _ _ _ _ us hl => match us, hl with | [_], _ => rfl, fun _ _ _ _ _ _ us hl => match us, hl with | [_], _ => rfl, fun _ _ _ _ _ _ us hl => match us, hl with | [_, _], _ => rfl, fun _ _ _ _ _ _ us hl => match us, hl with | [_], _ => rfl, fun _ _ _ _ _ _ us hl => match us, hl with | [_], _ => rfl, fun _ _ _ _ _ _ us hl => match us, hl with | [_, _], _ => rfl, fun _ _ _ _ _ _ us hl => match us, hl with | [_, _], _ => rfl, fun _ _ _ _ _ _ us hl => match us, hl with | [_], _ => rfl, fun _ _ _ _ _ _ us hl => match us, hl with | [_, _], _ => rfl, fun _ _ _ _ _ _ us hl => match us, hl with | [_, _], _ => rfl, fun _ _ _ _ _ _ us hl => match us, hl with | [_, _], _ => rfl, fun _ _ _ _ _ _ us hl => match us, hl with | [_, _], _ => rfl, fun _ _ _ _ _ _ us hl => match us, hl with | [_], _ => rfl, fun _ _ _ _ _ _ us hl => match us, hl with | [_, _, _], _ => rfl, fun _ _ _ _ _ _ us hl => match us, hl with | [_, _, _], _ => rfl, fun _ _ _ _ _ _ us hl => match us, hl with | [_, _, _], _ => rfl, fun _ _ _ _ _ _ us hl => match us, hl with | [_, _], _ => rfl, fun _ _ _ _ _ _ us hl => match us, hl with | [_, _, _, _], _ => rfl, fun _ _ _ _ _ _ us hl => match us, hl with | [_, _], _ => rfl, fun _ _ _ _ _ _ us hl => match us, hl with | [_, _], _ => rfl, fun _ _ _ _ _ _ us hl => match us, hl with | [_, _], _ => rfl, fun _ _ _ _ _ _ us hl => match us, hl with | [_, _], _ => rfl, fun _ _ _ _ _ _ us hl => match us, hl with | [_, _, _], _ => rfl, fun _ _ _ _ _ _ us hl => match us, hl with | [_], _ => rfl, fun _ _ _ _ _ _ us hl => match us, hl with | [_, _], _ => rfl, fun _ _ _ _ _ _ us hl => match us, hl with | [_], _ => rfl, fun _ _ _ _ _ _ us hl => match us, hl with | [_, _], _ => rfl, fun _ _ _ _ _ _ us hl => match us, hl with | [_, _, _], _ => rfl, fun _ _ _ _ _ _ us hl => match us, hl with | [_, _, _], _ => rfl, fun _ _ _ _ _ _ us hl => match us, hl with | [_, _, _, _, _], _ => rfl, fun _ _ _ _ _ _ us hl => match us, hl with | [_, _, _, _], _ => rfl, fun _ _ _ _ _ _ us hl => match us, hl with | [_, _, _], _ => rfl, fun _ _ _ _ _ _ us hl => match us, hl with | [_, _, _, _], _ => rfl, fun _ _ _ _ _ _ us hl => match us, hl with | [_], _ => rfl, trivial⟩
theorem L_okT : AllD (fun t => t.b.okT L.T) L.dts := by
  (repeat first | exact True.intro | refine And.intro ?_ ?_ | exact rfl)
theorem L_ok : L.Ok := ⟨L_chk, L_bnd, L_okT⟩
open PySem PySem.W PySem.Calls PyProof.Rows L2
abbrev Rw : PySem.W.OpenRow := PySem.W.OpenLaw.row PySem.Challenge.rw_fullpipes_k05_runs
abbrev hk : PySem.W.Hook := hookX 4 L.fa L.fn L.exs
def ob (s : PySem.W.SharedT) : He.AlD := obsXG 4 L.fa L.fn L.exs (HandSHeadRun.getT s)
theorem ob_eq (s : PySem.W.SharedT) : ob s = hk.obs s.abs := obsXG_eq (HandSHeadRun.getT_eq s)
theorem run (w : World) : HandSHeadRun.RunEq Rw (PySem.W.view Rw.prog [58]) hk ob 3000 [("is_whole" : Str), ("is_name" : Str), ("is_rising" : Str), ("is_pair" : Str), ("are_pipes" : Str), ("is_row" : Str), ("is_net" : Str), ("look_net" : Str), ("is_state_of" : Str), ("look_state" : Str), ("ways_in" : Str), ("pipes_in" : Str), ("row_of" : Str), ("look_way" : Str), ("is_push_of" : Str), ("plain_pushed" : Str), ("is_run_of" : Str), ("is_run" : Str), ("look_run" : Str), ("plain_run" : Str), ("behind" : Str), ("outs_of" : Str), ("is_spot_of" : Str), ("look_spot" : Str), ("spots_in" : Str), ("marked" : Str), ("traced" : Str), ("places_of" : Str), ("look_asked" : Str), ("where" : Str), ("whence" : Str), ("delay" : Str), ("_law_drawn" : Str), ("_law_net" : Str), ("_law_state" : Str), ("_law_unlike" : Str), ("_law_run" : Str), ("_law_push" : Str), ("_law_went" : Str), ("_law_no" : Str), ("_law_refused" : Str), ("PipeError" : Str), ("NoNet" : Str), ("NoState" : Str), ("NoWay" : Str), ("NoRun" : Str), ("NoSpot" : Str), ("SMALL" : Str), ("LONGEST" : Str), ("MOST_PIPES" : Str), ("MOST_LENGTH" : Str), ("MOST_WAYS" : Str), ("MOST_ROW" : Str), ("MOST_RUN" : Str)] w := by
  intro os
  kernel_rfl
end Lk05

set_option Elab.async false
set_option linter.all false
set_option maxRecDepth 100000
set_option maxHeartbeats 0
namespace Lk05
open PySem Fp
theorem h0 : P__law_drawn f0 := S__law_drawn
theorem h1 : P__law_net f1 := S__law_net h0
theorem h2 : P__law_push f2 := S__law_push
theorem h3 : P__law_went f3 := S__law_went h2
theorem h4 : P__law_unlike f4 := S__law_unlike
theorem h5 : P_is_rising f5 := S_is_rising
theorem h6 : P_is_whole f6 := S_is_whole
theorem h7 : P_is_name f7 := S_is_name
theorem h8 : P_is_pair f8 := S_is_pair h7
theorem h9 : P_are_pipes f9 := S_are_pipes h8 h5 h6
theorem h10 : P_is_row f10 := S_is_row h7
theorem h11 : P_is_net f11 := S_is_net h9 h10 h8 h5
theorem h12 : P_look_net f12 := S_look_net h11
theorem h13 : P_is_state_of f13 := S_is_state_of h7
theorem h14 : P_look_state f14 := S_look_state h13
theorem h15 : P_ways_in f15 := S_ways_in
theorem h16 : P_is_push_of f16 := S_is_push_of h7 h15 h8
theorem h17 : P_is_run_of f17 := S_is_run_of h16
theorem h18 : P_look_run f18 := S_look_run h17
theorem h19 : P_row_of f19 := S_row_of h15
theorem h20 : P_pipes_in f20 := S_pipes_in
theorem h21 : P_plain_pushed f21 := S_plain_pushed h20 h19
theorem h22 : P_plain_run f22 := S_plain_run h21
theorem h23 : P_behind f23 := S_behind h12 h14 h18 h22
theorem h24 : P_look_way f24 := S_look_way h15 h7
theorem h25 : P_outs_of f25 := S_outs_of h12 h14 h18 h24 h22
theorem h26 : P_is_run f26 := S_is_run h12 h17
theorem h27 : P_delay f27 := S_delay h12 h24 h19
theorem h28 : P_is_spot_of f28 := S_is_spot_of h20 h8 h6
theorem h29 : P_look_spot f29 := S_look_spot h28
theorem h30 : P_look_asked f30 := S_look_asked h12 h18 h29
theorem h31 : P_marked f31 := S_marked
theorem h32 : P_traced f32 := S_traced h22 h31
theorem h33 : P_spots_in f33 := S_spots_in
theorem h34 : P_places_of f34 := S_places_of h33 h20
theorem h35 : P_where f35 := S_where h30 h32 h34
theorem h36 : P_whence f36 := S_whence h30 h34 h32
theorem h37 : K05no f37 := K05no_ok (by intro e n h; simp only [k05cs, List.mem_cons, Prod.mk.injEq, List.not_mem_nil, or_false] at h; rcases h with ⟨rfl, rfl⟩ | ⟨rfl, rfl⟩ | ⟨rfl, rfl⟩ | ⟨rfl, rfl⟩ | ⟨rfl, rfl⟩ <;> decide +kernel) h23 h25 h35 h36 h26 h27
theorem h38 : K05refused f38 := K05refused_ok h0 h37 h26
theorem h39 : P__law_state f39 := S__law_state h0
theorem h40 : K05run f40 := K05run_ok h0
theorem law_true (ns : List Int) (h : ns.length ≤ 63) : t41.g [.list (ns.map PyData.int)] = .ok (.bool true) :=
  K05_ok (jn := 1) (jr := 40) (js := 39) (jw := 3) (jb := 23) (jo := 25) (jd := 27) (ju := 4) (jwh := 35) (jwc := 36) (jre := 38) h1 h40 h39 h3 h23 h25 h27 h4 h35 h36 h38 ⟨ns, h, rfl⟩
end Lk05
open PySem PySem.W PySem.Calls PyProof.Rows Fp
theorem PySem.Challenge.cw_fullpipes_k05_runs_holds : PySem.Challenge.rw_fullpipes_k05_runs.Holds := by
  w_on; o_law
  refine HandSHeadRun.head_any (r := OpenLaw.row PySem.Challenge.rw_fullpipes_k05_runs) (q := view (OpenLaw.row PySem.Challenge.rw_fullpipes_k05_runs).prog [58]) (H := Lk05.hk) (ob := Lk05.ob) (M := 3000) (loose := [("is_whole" : Str), ("is_name" : Str), ("is_rising" : Str), ("is_pair" : Str), ("are_pipes" : Str), ("is_row" : Str), ("is_net" : Str), ("look_net" : Str), ("is_state_of" : Str), ("look_state" : Str), ("ways_in" : Str), ("pipes_in" : Str), ("row_of" : Str), ("look_way" : Str), ("is_push_of" : Str), ("plain_pushed" : Str), ("is_run_of" : Str), ("is_run" : Str), ("look_run" : Str), ("plain_run" : Str), ("behind" : Str), ("outs_of" : Str), ("is_spot_of" : Str), ("look_spot" : Str), ("spots_in" : Str), ("marked" : Str), ("traced" : Str), ("places_of" : Str), ("look_asked" : Str), ("where" : Str), ("whence" : Str), ("delay" : Str), ("_law_drawn" : Str), ("_law_net" : Str), ("_law_state" : Str), ("_law_unlike" : Str), ("_law_run" : Str), ("_law_push" : Str), ("_law_went" : Str), ("_law_no" : Str), ("_law_refused" : Str), ("PipeError" : Str), ("NoNet" : Str), ("NoState" : Str), ("NoWay" : Str), ("NoRun" : Str), ("NoSpot" : Str), ("SMALL" : Str), ("LONGEST" : Str), ("MOST_PIPES" : Str), ("MOST_LENGTH" : Str), ("MOST_WAYS" : Str), ("MOST_ROW" : Str), ("MOST_RUN" : Str)]) (d := HandSHeadRun.topDef (OpenLaw.row PySem.Challenge.rw_fullpipes_k05_runs).prog 58) (kwd := []) Lk05.ob_eq
    (by kernel_rfl) (fun s => by kernel_rfl) Lk05.run (by kernel_rfl) (by kernel_rfl) (by kernel_rfl) (by rfl) (by first | assumption | decide +kernel) (by decide +kernel) ⟨rfl, rfl, rfl, rfl, rfl, by decide +kernel⟩ ?hw ?hc
  case hw => w_witness2
  case hc =>
    exact Fp.walk_law (l := PySem.Challenge.rw_fullpipes_k05_runs) (n := 63) (m := 4) (L := Lk05.L) rfl (by rw [sz_eq]; omega) (by kernel_rfl) (by kernel_rfl) Lk05.L_ok 41 Lk05.t41 "_law_script" rfl rfl rfl ⟨rfl, by decide, by decide⟩ Lk05.law_true
