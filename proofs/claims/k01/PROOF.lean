import PyProof.Rows.All
import Wide.All
import OpenK.AllK
import Wide.FinOn
import HandS.ForMost
import HandS.ForExc
import HandS.Wide
import HandS.CallSlots
import HandS.Zip
import HandS.EndBits
import KE.DataEq
import KE.DataCmp
import KE.DataIsa
import KE.DataAny
import KE.DataFind
import KE.DataMinMax
import KE.SortData
import HandS.TupAny
import HandS.TupMul
import HandS.Style
import HandS.Deep
import KE.GoesMore
import PyProof.EnumMake
import HandS.TupSets
import HandS.TryOnly
import HandS.ExcOwn
import HandS.ExcIs
import HandS.HeadHook1
import HandS.Defaults
import HandS.HeadHook2
import HandS.HeadEnd
import HandS.WordsExc
import HandS.Head2
import HandS.Head0
import HandS.Head1
import KE.KStateDown
import PySem.Challenge.RW_fullpipes_k01_nets
set_option Elab.async false
set_option linter.all false
set_option maxRecDepth 100000
/-! A small language over pure data, with values as PyData: its terms, its meaning. -/
namespace Fp
open PySem PySem.Spec PyProof.Rows L2

abbrev D := PyData

/-- an answer: a value, a refusal by its class's name, or no answer -/
inductive R (α : Type) where
  | ok (a : α)
  | ex (c : Str)
  | no
def R.bind {α β : Type} : R α → (α → R β) → R β
  | .ok a, f => f a
  | .ex c, _ => .ex c
  | .no, _ => .no
theorem R.bind_ok {α β : Type} (a : α) (f : α → R β) : (R.ok a).bind f = f a := rfl
theorem R.bind_ex {α β : Type} (c : Str) (f : α → R β) : (R.ex c : R α).bind f = .ex c := rfl
theorem R.bind_no {α β : Type} (f : α → R β) : (R.no : R α).bind f = .no := rfl

inductive Slot where
  | un
  | val (d : D)
  | own (d : D)
  | exc (c : Str)
abbrev Env := List Slot
/-- c is d, or below it -/
def isSub (c d : Str) : Bool := decide (c = d) || decide (d = "PipeError")

/-! ### operations on data -/
def fine (d : D) : Bool := d.plain && decide (d.depth ≤ 60)
def dEq (a b : D) : R Bool := if fine a && fine b then .ok (PyData.eqv a b) else .no
def noneD : D → Bool
  | .none => true
  | _ => false
def dLt (a b : D) : R Bool := if PySem.W.alike a b && PySem.W.alike b a && !noneD a && !noneD b && decide (a.depth ≤ 60) then .ok (PySem.W.dataLt a b) else .no
def dLe (a b : D) : R Bool := if PySem.W.alike a b && PySem.W.alike b a && !noneD a && !noneD b && decide (a.depth ≤ 60) then .ok (!PySem.W.dataLt b a) else .no
/-- x in c -/
def dIn (x : D) : D → R Bool
  | .list ds => if fine x && fine (.list ds) then .ok (ds.any fun z => PyData.eqv z x) else .no
  | .tuple ds => if fine x && fine (.tuple ds) then .ok (ds.any fun z => PyData.eqv z x) else .no
  | .str z => match x with
    | .str y => (match y.cps.toList with
      | [c] => .ok (decide (c ∈ z.cps.toList))
      | _ => .no)
    | _ => .no
  | _ => .no
inductive Bop where
  | add | sub | mul | fdiv | mod | pow
def dAdd : D → D → R D
  | .int i, .int j => .ok (.int (i + j))
  | .str x, .str y => if x.length + y.length ≤ 16777216 then .ok (.str (x ++ y)) else .no
  | .list xs, .list ys => if xs.length + ys.length ≤ 16777216 then .ok (.list (xs ++ ys)) else .no
  | .tuple xs, .tuple ys => if xs.length + ys.length ≤ 16777216 then .ok (.tuple (xs ++ ys)) else .no
  | _, _ => .no
/-- xs * n -/
def repD (xs : List D) (n : Int) : List D := (List.replicate n.toNat xs).flatten
def dMul : D → D → R D
  | .int i, .int j => if (decide (-(2 ^ 64) < i) && decide (i < 2 ^ 64)) || (decide (-(2 ^ 64) < j) && decide (j < 2 ^ 64)) then .ok (.int (i * j)) else .no
  | .list xs, .int j => if decide (-(2 ^ 62) ≤ j) && decide (j < 2 ^ 62) && decide (xs.length * j.toNat ≤ 16777216) then .ok (.list (repD xs j)) else .no
  | .tuple xs, .int j => if decide (2 ≤ j) && decide (j ≤ 1000) && decide (xs.length ≤ 1000) && !xs.isEmpty then .ok (.tuple (repD xs j)) else .no
  | _, _ => .no
def dBin : Bop → D → D → R D
  | .add, a, b => dAdd a b
  | .sub, .int i, .int j => .ok (.int (i - j))
  | .mul, a, b => dMul a b
  | .fdiv, .int i, .int j => if decide (0 < j) && decide (j.natAbs.log2 < 9000) then .ok (.int (i / j)) else .no
  | .mod, .int i, .int j => if 0 < j then .ok (.int (i % j)) else .no
  | .pow, .int i, .int j => if decide (0 ≤ j) && decide (j ≤ 1000000) && decide (i.natAbs < 2 ^ 64) then .ok (.int (i ^ j.toNat)) else .no
  | _, _, _ => .no
def dNeg : D → R D
  | .int i => .ok (.int (-i))
  | _ => .no
inductive Cop where
  | eq | ne | lt | gt | le | ge | isin | notin
def dCmp : Cop → D → D → R Bool
  | .eq, a, b => dEq a b
  | .ne, a, b => (dEq a b).bind fun k => .ok (!k)
  | .lt, a, b => dLt a b
  | .gt, a, b => dLt b a
  | .le, a, b => dLe a b
  | .ge, a, b => dLe b a
  | .isin, a, b => dIn a b
  | .notin, a, b => (dIn a b).bind fun k => .ok (!k)
def ofO {α : Type} : Option α → R α
  | some a => .ok a
  | none => .no
def dIdx : D → D → R D
  | .list xs, .int i => ofO (atI xs i)
  | .tuple xs, .int i => ofO (atI xs i)
  | .str z, .int i => if decide (z.length ≤ 16777216) then (ofO (atI z.cps.toList i)).bind fun c => .ok (.str ⟨#[c]⟩) else .no
  | _, _ => .no
def cutD (xs : List D) (lo hi : Option Int) : List D := (xs.drop (HT.sIx xs.length 0 lo)).take (HT.sIx xs.length xs.length hi - HT.sIx xs.length 0 lo)
def dSli : D → Option Int → Option Int → R D
  | .list xs, lo, hi => .ok (.list (cutD xs lo hi))
  | .tuple xs, lo, hi => .ok (.tuple (cutD xs lo hi))
  | _, _, _ => .no
def dRev : D → R D
  | .list xs => .ok (.list xs.reverse)
  | .tuple xs => .ok (.tuple xs.reverse)
  | _ => .no
inductive Ty where
  | int | bool | str | tuple | list
def isTy : Ty → D → Bool
  | .int, d => d.isInt
  | .bool, d => d.isBool
  | .str, d => d.isStr
  | .tuple, d => d.isTuple
  | .list, d => d.isList
/-- what is walked -/
def itemsD : D → R (List D)
  | .list xs => .ok xs
  | .tuple xs => .ok xs
  | .str z => .ok (z.cps.toList.map fun c => .str ⟨#[c]⟩)
  | _ => .no
def boolsD : List D → R (List Bool)
  | [] => .ok []
  | .bool b :: r => (boolsD r).bind fun bs => .ok (b :: bs)
  | _ :: _ => .no
def intsD : List D → R (List Int)
  | [] => .ok []
  | .int i :: r => (intsD r).bind fun is => .ok (i :: is)
  | _ :: _ => .no
/-- alike, none None: what sorted and min take -/
def allAlike (xs : List D) : Bool := xs.all fun x => xs.all fun y => PySem.W.alike x y
def sortD (xs : List D) : List D := xs.mergeSort (PySem.W.dataLe false id)
def sortable (xs : List D) : Bool := (xs.all fun d => match d with
    | .tuple (_ :: _) => true
    | _ => false) || xs.all fun d => match d with
    | .none => false
    | .tuple _ => false
    | _ => true
inductive Blt where
  | len | all | any | sum | list | tuple | sorted | min1 | max2 | min2
def dBlt : Blt → List D → R D
  | .len, [.str z] => if decide (z.length ≤ 16777216) then .ok (.int z.length) else .no
  | .len, [.list xs] => .ok (.int xs.length)
  | .len, [.tuple xs] => .ok (.int xs.length)
  | .all, [.list xs] => (boolsD xs).bind fun bs => .ok (.bool (bs.all id))
  | .any, [.list xs] => (boolsD xs).bind fun bs => .ok (.bool (bs.any id))
  | .sum, [.list xs] => (intsD xs).bind fun is => .ok (.int is.sum)
  | .list, [.list xs] => .ok (.list xs)
  | .list, [.tuple xs] => .ok (.list xs)
  | .tuple, [.list xs] => .ok (.tuple xs)
  | .tuple, [.tuple xs] => .ok (.tuple xs)
  | .tuple, [.str z] => if decide (z.length ≤ 16777216) then .ok (.tuple (z.cps.toList.map fun c => .str ⟨#[c]⟩)) else .no
  | .sorted, [.list xs] => if allAlike xs && sortable xs && fine (.list xs) then .ok (.list (sortD xs)) else .no
  | .min1, [.list (x :: xs)] => if allAlike (x :: xs) && sortable (x :: xs) && fine (.list (x :: xs)) then .ok (PySem.W.minD x xs) else .no
  | .max2, [.int i, .int j] => .ok (.int (if j > i then j else i))
  | .min2, [.int i, .int j] => .ok (.int (if j < i then j else i))
  | _, _ => .no
inductive Met where
  | index | count
def dMet : Met → D → List D → R D
  | .index, .list xs, [x] => if fine (.list xs) && fine x then (ofO (PySem.SeqAt.dataPlace xs x)).bind fun j => .ok (.int j) else .no
  | .count, .list xs, [x] => if fine (.list xs) && fine x then .ok (.int (xs.countP fun y => PyData.eqv y x)) else .no
  | _, _, _ => .no
/-! ### terms -/
inductive Tg where
  | nm (i : Nat)
  | t2 (a b : Tg)
  | t3 (a b c : Tg)
/-- is None, is True, is False -/
inductive Kc where
  | non | tru | fls
mutual
inductive E where
  | slot (i : Nat)
  | bor (i : Nat)
  | cst (d : D)
  | glo (x : Str) (d : D)
  | tup (es : Es)
  | lst (es : Es)
  | bin (o : Bop) (a b : E)
  | neg (a : E)
  | cmp (o : Cop) (a b : E)
  | chn (a b c : E)
  | and (a b : E)
  | or (a b : E)
  | not (a : E)
  | ite (c a b : E)
  | idx (a i : E)
  | sli (a : E) (lo hi : Eo)
  | rev (a : E)
  | call (j : Nat) (g : List D → R D) (es : Es)
  | blt (b : Blt) (es : Es)
  | isi (a : E) (t : Ty)
  | isk (neg : Bool) (a : E) (k : Kc)
  | exi (i : Nat) (c : Str)
  | met (m : Met) (a : E) (es : Es)
  | lc (own : List Nat) (tg : Tg) (it : It) (cs : Cs) (e : E)
  | lc2 (own : List Nat) (tg : Tg) (it : It) (cs : Cs) (tg2 : Tg) (it2 : It) (cs2 : Cs) (e : E)
inductive Es where
  | nil
  | cons (e : E) (es : Es)
inductive Eo where
  | non
  | som (e : E)
inductive It where
  | dat (e : E)
  | zip (a b : E)
  | enu (a : E)
  | rg1 (a : E)
  | rg2 (a b : E)
inductive Cs where
  | nil
  | one (e : E)
end
/-! ### meaning -/
def tgv : Tg → List Nat
  | .nm i => [i]
  | .t2 a b => tgv a ++ tgv b
  | .t3 a b c => tgv a ++ (tgv b ++ tgv c)
def wipeE (env : Env) : List Nat → Env
  | [] => env
  | v :: vs => (wipeE env vs).set v .un
def asg : Tg → D → Env → R Env
  | .nm i, d, env => if i < env.length then .ok (env.set i (.val d)) else .no
  | .t2 a b, .tuple [x, y], env => (asg a x env).bind fun e => asg b y e
  | .t3 a b c, .tuple [x, y, z], env => (asg a x env).bind fun e => (asg b y e).bind fun e => asg c z e
  | _, _, _ => .no
/-- the items that stay; an exception within is no answer -/
def lcGo (f : D → R (Option D)) : List D → R (List D)
  | [] => .ok []
  | x :: xs => match f x with
    | .ok (some y) => (match lcGo f xs with
      | .ok ys => .ok (y :: ys)
      | _ => .no)
    | .ok none => lcGo f xs
    | _ => .no
def lcGo2 (f : D → R (List D)) : List D → R (List D)
  | [] => .ok []
  | x :: xs => match f x with
    | .ok ys => (match lcGo2 f xs with
      | .ok zs => .ok (ys ++ zs)
      | _ => .no)
    | _ => .no
def asB : D → R Bool
  | .bool b => .ok b
  | _ => .no
def isK : Kc → D → R Bool
  | .non, d => .ok (noneD d)
  | .tru, .bool b => .ok b
  | .fls, .bool b => .ok (!b)
  | _, _ => .no
def zipD (xs ys : List D) : List D := List.zipWith (fun x y => .tuple [x, y]) xs ys
def enumD (n : Nat) : List D → List D
  | [] => []
  | x :: xs => .tuple [.int n, x] :: enumD (n + 1) xs
def rangeD (lo : Int) (n : Nat) : List D := (List.range n).map fun (i : Nat) => PyData.int (lo + i)
def sq : D → R (List D)
  | .list xs => .ok xs
  | .tuple xs => .ok xs
  | _ => .no
def sqL : D → R (List D)
  | .list xs => .ok xs
  | _ => .no
def zipR : D → D → R (List D)
  | .list xs, .list ys => .ok (zipD xs ys)
  | .tuple xs, .tuple ys => .ok (zipD xs ys)
  | _, _ => .no
def partO : D → R (Option Int)
  | .int i => .ok (some i)
  | _ => .no
def rng : D → D → R (List D)
  | .int i, .int j => if decide (-(2 ^ 62) ≤ i) && decide (i < 2 ^ 62) && decide (-(2 ^ 62) ≤ j) && decide (j < 2 ^ 62) then .ok (rangeD i (j - i).toNat) else .no
  | _, _ => .no
mutual
def evE : E → Env → R D
  | .slot i, env => (match env[i]? with
    | some (.val d) => .ok d
    | _ => .no)
  | .bor i, env => (match env[i]? with
    | some (.val d) => .ok d
    | some (.own d) => .ok d
    | _ => .no)
  | .cst d, _ => .ok d
  | .glo _ d, _ => .ok d
  | .tup es, env => (evEs es env).bind fun ds => if ds.length ≤ 16777216 then .ok (.tuple ds) else .no
  | .lst es, env => (evEs es env).bind fun ds => if ds.length ≤ 16777216 then .ok (.list ds) else .no
  | .bin o a b, env => (evE a env).bind fun x => (evE b env).bind fun y => dBin o x y
  | .neg a, env => (evE a env).bind dNeg
  | .cmp o a b, env => (evE a env).bind fun x => (evE b env).bind fun y => (dCmp o x y).bind fun k => .ok (.bool k)
  | .chn a b c, env => (evE a env).bind fun x => (evE b env).bind fun y => (dLe x y).bind fun k =>
      if k = true then (evE c env).bind fun z => (dLe y z).bind fun k => .ok (.bool k) else .ok (.bool false)
  | .and a b, env => (evE a env).bind fun x => (asB x).bind fun k => if k = true then evE b env else .ok (.bool false)
  | .or a b, env => (evE a env).bind fun x => (asB x).bind fun k => if k = true then .ok (.bool true) else evE b env
  | .not a, env => (evE a env).bind fun x => (asB x).bind fun k => .ok (.bool (!k))
  | .ite c a b, env => (evE c env).bind fun x => (asB x).bind fun k => if k = true then evE a env else evE b env
  | .idx a i, env => (evE a env).bind fun x => (evE i env).bind fun y => dIdx x y
  | .sli a lo hi, env => (evE a env).bind fun x => (evEo lo env).bind fun l => (evEo hi env).bind fun h => dSli x l h
  | .rev a, env => (evE a env).bind dRev
  | .call _ g es, env => (evEs es env).bind g
  | .blt b es, env => (evEs es env).bind (dBlt b)
  | .isi a t, env => (evE a env).bind fun x => .ok (.bool (isTy t x))
  | .isk n a k, env => (evE a env).bind fun x => (isK k x).bind fun b => .ok (.bool (n != b))
  | .exi i c, env => (match env[i]? with
    | some (.exc d) => .ok (.bool (isSub d c))
    | _ => .no)
  | .met m a es, env => (evE a env).bind fun x => (sqL x).bind fun xs => (evEs es env).bind fun ys => dMet m (.list xs) ys
  | .lc own tg it cs e, env => (evIt it env).bind fun xs =>
      (lcGo (fun x => (asg tg x (wipeE env own)).bind fun env' => (evCs cs env').bind fun k => if k = true then (evE e env').bind fun y => .ok (some y) else .ok none) xs).bind fun ys => if ys.length ≤ 16777216 then .ok (.list ys) else .no
  | .lc2 own tg it cs tg2 it2 cs2 e, env => (evIt it env).bind fun xs =>
      (lcGo2 (fun x => (asg tg x (wipeE env own)).bind fun env' => (evCs cs env').bind fun k => if k = true then (evIt it2 env').bind fun zs =>
          lcGo (fun z => (asg tg2 z (wipeE env' (tgv tg2))).bind fun env2 => (evCs cs2 env2).bind fun k => if k = true then (evE e env2).bind fun y => .ok (some y) else .ok none) zs
        else .ok []) xs).bind fun ys => if ys.length ≤ 16777216 then .ok (.list ys) else .no
def evEs : Es → Env → R (List D)
  | .nil, _ => .ok []
  | .cons e es, env => (evE e env).bind fun x => (evEs es env).bind fun xs => .ok (x :: xs)
def evEo : Eo → Env → R (Option Int)
  | .non, _ => .ok none
  | .som e, env => (evE e env).bind partO
def evIt : It → Env → R (List D)
  | .dat e, env => (evE e env).bind itemsD
  | .zip a b, env => (evE a env).bind fun x => (evE b env).bind fun y => zipR x y
  | .enu a, env => (evE a env).bind fun x => (sq x).bind fun xs => .ok (enumD 0 xs)
  | .rg1 a, env => (evE a env).bind fun x => rng (.int 0) x
  | .rg2 a b, env => (evE a env).bind fun x => (evE b env).bind fun y => rng x y
def evCs : Cs → Env → R Bool
  | .nil, _ => .ok true
  | .one e, env => (evE e env).bind asB
end
/-! ### statements -/
inductive Fl where
  | nx (e : Env)
  | rt (d : D)
  | ex (c : Str) (e : Env)
  | no
inductive Ps where
  | nil
  | cons (i : Nat) (o : Bool) (e : E) (r : Ps)
mutual
inductive S where
  | asn (tg : Tg) (e : E)
  | own (i : Nat) (e : E)
  | frz (i : Nat)
  | par (l : Ps)
  | sti (i : Nat) (ix e : E)
  | app (i : Nat) (e : E)
  | appop (i j : Nat) (e : E)
  | extd (i : Nat) (e : E)
  | ife (c : E) (a b : Ss)
  | for (tg : Tg) (it : It) (b : Ss)
  | whl (c : E) (b : Ss)
  | ret (e : E)
  | rse (c : Str)
  | exp (e : E)
  | pas
  | tryx (b : Ss) (i : Nat) (c : Str) (ks : List Str) (h : Ss)
  | tryo (b : Ss) (c : Str) (ks : List Str) (h : Ss)
inductive Ss where
  | nil
  | cons (s : S) (r : Ss)
end
def ofR (env : Env) (x : R D) (f : D → Fl) : Fl := match x with
  | .ok d => f d
  | .ex c => .ex c env
  | .no => .no
def ofE (x : R Env) : Fl := match x with
  | .ok e => .nx e
  | _ => .no
def Fl.andThen (x : Fl) (f : Env → Fl) : Fl := match x with
  | .nx e => f e
  | r => r
def setS (i : Nat) (s : Slot) (env : Env) : R Env := if i < env.length then .ok (env.set i s) else .no
def slotOf (o : Bool) (d : D) : R Slot := if o = true then (match d with
    | .list _ => .ok (.own d)
    | _ => .no) else .ok (.val d)
/-- all are reckoned first, then stored -/
def evPs : Ps → Env → R (List (Nat × Slot))
  | .nil, _ => .ok []
  | .cons i o e r, env => (evE e env).bind fun d => (slotOf o d).bind fun s => (evPs r env).bind fun l => .ok ((i, s) :: l)
def setAll : List (Nat × Slot) → Env → R Env
  | [], env => .ok env
  | (i, s) :: r, env => (setS i s env).bind fun e => setAll r e
def ownL (env : Env) (i : Nat) : R (List D) := match env[i]? with
  | some (.own (.list xs)) => .ok xs
  | _ => .no
def forGo (f : D → Env → Fl) : List D → Env → Fl
  | [], env => .nx env
  | x :: xs, env => (f x env).andThen (forGo f xs)
def whlGo (c : Env → R D) (b : Env → Fl) : Nat → Env → Fl
  | 0, _ => .no
  | n + 1, env => ofR env (c env) fun d => match d with
    | .bool true => (b env).andThen (whlGo c b n)
    | .bool false => .nx env
    | _ => .no
def noExc (env : Env) : Env := env.map fun s => match s with
  | .exc _ => .un
  | s => s
/-- more turns than any loop takes -/
def turns : Nat := 1000000
def withO (env : Env) (i : Nat) (f : List D → Fl) : Fl := match env[i]? with
  | some (.own (.list xs)) => f xs
  | _ => .no
mutual
def exS : S → Env → Fl
  | .asn tg e, env => ofR env (evE e env) fun d => ofE (asg tg d env)
  | .own i e, env => ofR env (evE e env) fun d => match d with
    | .list xs => ofE (setS i (.own (.list xs)) env)
    | _ => .no
  | .frz i, env => (match env[i]? with
    | some (.own d) => .nx (env.set i (.val d))
    | _ => .nx env)
  | .par l, env => (match evPs l env with
    | .ok l => ofE (setAll l env)
    | .ex c => .ex c env
    | .no => .no)
  | .sti i ix e, env => ofR env (evE e env) fun d => withO env i fun xs => ofR env (evE ix env) fun k => match k with
    | .int n => (match ixN xs.length n with
      | some j => .nx (env.set i (.own (.list (xs.set j d))))
      | none => .no)
    | _ => .no
  | .app i e, env => withO env i fun xs => ofR env (evE e env) fun d => ofE (if xs.length < 16777216 then setS i (.own (.list (xs ++ [d]))) env else .no)
  | .appop i j e, env => withO env i fun xs => withO env j fun ys => if i = j then .no else ofR env (evE e env) fun k => match k with
    | .int n => (match ixN ys.length n with
      | some m => (match ys[m]? with
        | some d => if xs.length < 16777216 ∧ ys.length ≤ 16777216 then .nx ((env.set j (.own (.list (ys.eraseIdx m)))).set i (.own (.list (xs ++ [d])))) else .no
        | none => .no)
      | none => .no)
    | _ => .no
  | .extd i e, env => ofR env (evE e env) fun d => ofE ((sq d).bind fun ds => (ownL env i).bind fun xs => if xs.length + ds.length ≤ 16777216 then setS i (.own (.list (xs ++ ds))) env else .no)
  | .ife c a b, env => ofR env (evE c env) fun d => match d with
    | .bool true => exSs a env
    | .bool false => exSs b env
    | _ => .no
  | .for tg it b, env => (match evIt it env with
    | .ok xs => forGo (fun x env => match asg tg x env with
      | .ok e => exSs b e
      | _ => .no) xs env
    | .ex c => .ex c env
    | .no => .no)
  | .whl c b, env => whlGo (evE c) (exSs b) turns env
  | .ret e, env => ofR env (evE e env) fun d => .rt d
  | .rse c, env => .ex c env
  | .exp e, env => ofR env (evE e env) fun _ => .nx env
  | .pas, env => .nx env
  | .tryx b i c ks h, env => (match exSs b env with
    | .ex d e => if ks.contains d = false then .no else if isSub d c = true then (match setS i (.exc d) (noExc e) with
      | .ok e => (match exSs h e with
        | .nx e => ofE (setS i .un (noExc e))
        | .rt d => .rt d
        | _ => .no)
      | _ => .no) else .ex d e
    | r => r)
  | .tryo b c ks h, env => (match exSs b env with
    | .ex d e => if ks.contains d = false then .no else if isSub d c = true then (match exSs h (noExc e) with
      | .nx e => .nx (noExc e)
      | .rt d => .rt d
      | _ => .no) else .ex d e
    | r => r)
def exSs : Ss → Env → Fl
  | .nil, env => .nx env
  | .cons s r, env => (exS s env).andThen (exSs r)
end
/-- how a body ends -/
def Fl.out : Fl → R D
  | .rt d => .ok d
  | .nx _ => .ok .none
  | .ex c _ => .ex c
  | .no => .no
/-- a def: its parameters, its slots, its body -/
def runF (np n : Nat) (b : Ss) : List D → R D := fun ds => if ds.length = np then (exSs b (ds.map .val ++ List.replicate (n - np) .un)).out else .no
end Fp

set_option Elab.async false
set_option linter.all false
set_option maxRecDepth 100000
/-! What the terms stand for: a text's syntax is held against a term; the frozen heap, the owned lists. -/
namespace Fp
open PySem PySem.Spec PyProof.Rows L2

/-! ### a text against a term -/
/-- what of the module is known: a def's slots, the defs by number (the first lim may be called), constants, free names -/
structure Gx where
  N : List Str
  fns : List Str
  lim : Nat
  cns : List (Str × D)
  fre : List Str
  exs : List Str
  ars : List Nat
  ise : Bool
/-- where one stands: the scope, which names may be stored, whether an exception is handled -/
structure Bk where
  sc : Scope
  st : Str → Bool
  hot : Bool
def isVis (sc : Scope) (x : Str) : Bool := match sc.names.lookup x with
  | some .local => true
  | some .cell => true
  | some .free => true
  | _ => false
def isLocal (sc : Scope) (x : Str) : Bool := match sc.names.lookup x with
  | some .local => true
  | _ => false
def isOwn (sc : Scope) (x : Str) : Bool := match sc.names.lookup x with
  | some .local => true
  | some .cell => true
  | _ => false
def isGl (sc : Scope) (x : Str) : Bool := match sc.names.lookup x with
  | some .globalImplicit => true
  | _ => false
def okNm (x : Str) : Bool := !(x == ("__debug__" : Str)) && !(x == ("__classdict__" : Str)) && !(x == ("__name__" : Str))
def nameAt (G : Gx) (bk : Bk) (i : Nat) (x : Str) : Bool := decide (G.N[i]? = some x) && isVis bk.sc x && okNm x
def cstIs : D → Const → Bool
  | .none, .none => true
  | .bool a, .bool b => a == b
  | .int a, .int b => decide (a = b)
  | .str a, .str b => decide (a = b)
  | _, _ => false
def eqC : D → D → Bool
  | .int a, .int b => decide (a = b)
  | .str a, .str b => decide (a = b)
  | _, _ => false
def bopIs : Bop → Operator → Bool
  | .add, .Add => true
  | .sub, .Sub => true
  | .mul, .Mult => true
  | .fdiv, .FloorDiv => true
  | .mod, .Mod => true
  | .pow, .Pow => true
  | _, _ => false
def copIs : Cop → CmpOp → Bool
  | .eq, .Eq => true
  | .ne, .NotEq => true
  | .lt, .Lt => true
  | .gt, .Gt => true
  | .le, .LtE => true
  | .ge, .GtE => true
  | .isin, .In => true
  | .notin, .NotIn => true
  | _, _ => false
def bltNm : Blt → Str
  | .len => "len"
  | .all => "all"
  | .any => "any"
  | .sum => "sum"
  | .list => "list"
  | .tuple => "tuple"
  | .sorted => "sorted"
  | .min1 => "min"
  | .max2 => "max"
  | .min2 => "min"
def bltN : Blt → Nat
  | .max2 => 2
  | .min2 => 2
  | _ => 1
def tyNm : Ty → Str
  | .int => "int"
  | .bool => "bool"
  | .str => "str"
  | .tuple => "tuple"
  | .list => "list"
def metNm : Met → Str
  | .index => "index"
  | .count => "count"
def kcIs : Kc → Const → Bool
  | .non, .none => true
  | .tru, .bool true => true
  | .fls, .bool false => true
  | _, _ => false
def chkTg (G : Gx) (bk : Bk) : Tg → Expr → Bool
  | .nm i, .Name x _ => decide (G.N[i]? = some x) && bk.st x
  | .t2 a b, .Tuple [x, y] _ _ => chkTg G bk a x && chkTg G bk b y
  | .t3 a b c, .Tuple [x, y, z] _ _ => chkTg G bk a x && chkTg G bk b y && chkTg G bk c z
  | _, _ => false
def Es.len : Es → Nat
  | .nil => 0
  | .cons _ r => r.len + 1
def isTupE : Expr → Bool
  | .Tuple _ _ _ => true
  | _ => false
/-- the block of a comprehension -/
def blkBk (bk : Bk) (scope : Scope) : Bk := ⟨relS scope bk.sc, isOwn scope, bk.hot⟩
def ownP (N : List Str) (own : List Nat) : List (Str × Nat) := own.map fun i => (N.getD i Str.empty, i)
mutual
def chkE (G : Gx) (bk : Bk) (bor : Bool) : E → Expr → Bool
  | .slot i, .Name x _ => nameAt G bk i x
  | .bor i, .Name x _ => bor && nameAt G bk i x
  | .cst d, .Constant c _ _ => cstIs d c
  | .glo x d, .Name y _ => decide (x = y) && isGl bk.sc y && okNm y && (G.cns.any fun p => decide (p.1 = y) && eqC p.2 d)
  | .tup es, .Tuple xs _ _ => chkEs G bk false es xs
  | .lst es, .List xs _ => chkEs G bk false es xs
  | .bin o a b, .BinOp x op y _ => bopIs o op && chkE G bk true a x && chkE G bk true b y
  | .neg a, .UnaryOp .USub x _ => chkE G bk false a x
  | .cmp o a b, .Compare x [op] [y] _ => copIs o op && chkE G bk true a x && chkE G bk true b y
  | .chn a b c, .Compare x [.LtE, .LtE] [y, z] _ => chkE G bk false a x && chkE G bk false b y && chkE G bk false c z
  | .and a b, .BoolOp .And (x :: y :: r) pos => chkE G bk false a x && (match r with
    | [] => chkE G bk false b y
    | _ :: _ => chkE G bk false b (.BoolOp .And (y :: r) pos))
  | .or a b, .BoolOp .Or (x :: y :: r) pos => chkE G bk false a x && (match r with
    | [] => chkE G bk false b y
    | _ :: _ => chkE G bk false b (.BoolOp .Or (y :: r) pos))
  | .not a, .UnaryOp .Not x _ => chkE G bk false a x
  | .ite c a b, .IfExp c' a' b' _ => chkE G bk false c c' && chkE G bk false a a' && chkE G bk false b b'
  | .idx a i, .Subscript x y _ => chkE G bk true a x && chkE G bk false i y
  | .sli a lo hi, .Subscript x (.Slice l h none _) _ => chkE G bk true a x && chkEo G bk lo l && chkEo G bk hi h
  | .rev a, .Subscript x (.Slice none none (some (.UnaryOp .USub (.Constant (.int 1) _ _) _)) _) _ => chkE G bk true a x
  | .call j _ es, .Call (.Name x _) xs [] _ => !bk.hot && decide (G.fns[j]? = some x) && decide (j < G.lim) && isGl bk.sc x && okNm x && decide (0 < es.len) && decide (G.ars[j]? = some es.len) && chkEs G bk false es xs
  | .blt b es, .Call (.Name x _) xs [] _ => !bk.hot && decide (x = bltNm b) && G.fre.contains x && isGl bk.sc x && decide (es.len = bltN b) && chkEs G bk true es xs
  | .isi a t, .Call (.Name f _) [x, .Name y _] [] _ => decide (f = ("isinstance" : Str)) && G.fre.contains f && isGl bk.sc f && decide (y = tyNm t) && G.fre.contains y && isGl bk.sc y && chkE G bk true a x
  | .isk n a k, .Compare x [op] [.Constant c _ _] _ => (match op with
    | .Is => !n
    | .IsNot => n
    | _ => false) && kcIs k c && chkE G bk true a x
  | .exi i c, .Call (.Name f _) [.Name x _, .Name y _] [] _ => bk.hot && decide (f = ("isinstance" : Str)) && G.fre.contains f && isGl bk.sc f && nameAt G bk i x && decide (y = c) && isGl bk.sc y && okNm y && G.exs.contains c && G.ise
  | .met m a es, .Call (.Attribute x y apos) xs [] cpos => decide (y = metNm m) && (apos.endLine == cpos.line) && decide (es.len = 1) && chkE G bk true a x && chkEs G bk false es xs
  | .lc own tg it cs e, .ListComp elt [⟨t, i, ifs, 0⟩] scope _ => !bk.hot && blkC G.N bk.sc scope (ownP G.N own) && (tgv tg).all own.contains && chkIt G bk true t it i && chkTg G (blkBk bk scope) tg t && chkCs G (blkBk bk scope) cs ifs && chkE G (blkBk bk scope) false e elt
  | .lc2 own tg it cs tg2 it2 cs2 e, .ListComp elt [⟨t, i, ifs, 0⟩, ⟨t2, i2, ifs2, 0⟩] scope _ => !bk.hot && blkC G.N bk.sc scope (ownP G.N own) && (tgv tg).all own.contains && chkIt G bk true t it i && chkTg G (blkBk bk scope) tg t && chkCs G (blkBk bk scope) cs ifs && (tgv tg2).all own.contains &&
      chkIt G (blkBk bk scope) false t2 it2 i2 && chkTg G (blkBk bk scope) tg2 t2 && chkCs G (blkBk bk scope) cs2 ifs2 && chkE G (blkBk bk scope) false e elt
  | _, _ => false
def chkEs (G : Gx) (bk : Bk) (bor : Bool) : Es → List Expr → Bool
  | .nil, [] => true
  | .cons e es, x :: xs => chkE G bk bor e x && chkEs G bk bor es xs
  | _, _ => false
def chkEo (G : Gx) (bk : Bk) : Eo → Option Expr → Bool
  | .non, none => true
  | .som e, some x => chkE G bk false e x
  | _, _ => false
def chkIt (G : Gx) (bk : Bk) (bor : Bool) (tg : Expr) : It → Expr → Bool
  | .dat e, x => chkE G bk bor e x
  | .zip a b, .Call (.Name f _) [x, y] [] _ => decide (f = ("zip" : Str)) && G.fre.contains f && isGl bk.sc f && isTupE tg && chkE G bk bor a x && chkE G bk bor b y
  | .enu a, .Call (.Name f _) [x] [] _ => decide (f = ("enumerate" : Str)) && G.fre.contains f && isGl bk.sc f && isTupE tg && chkE G bk bor a x
  | .rg1 a, .Call (.Name f _) [x] [] _ => decide (f = ("range" : Str)) && G.fre.contains f && isGl bk.sc f && chkE G bk false a x
  | .rg2 a b, .Call (.Name f _) [x, y] [] _ => decide (f = ("range" : Str)) && G.fre.contains f && isGl bk.sc f && chkE G bk false a x && chkE G bk false b y
  | _, _ => false
def chkCs (G : Gx) (bk : Bk) : Cs → List Expr → Bool
  | .nil, [] => true
  | .one e, [x] => chkE G bk false e x
  | _, _ => false
end
/-! ### what a value stands for -/
theorem Same.seqT {K : PySem.W.Frag} {H H' : Hp} {a : Addr} {xs : List V} (e : Same H H') (h : SqT K H a xs) : SqT K H' a xs := by
  rcases h with (h | ⟨o, h⟩) | h
  · exact .inl (.inl (e _ _ h))
  · exact .inl (.inr ⟨o, e _ _ h⟩)
  · exact .inr h
theorem Same.upd {H : Hp} {p : Addr} {o : HO} (h : H p = none) : Same H (upd H p o) := fun b x e => by
  rw [upd_ne (ne_of_none e h)]
  exact e
theorem Rd.mono {H H' : Hp} {a : Addr} {o : HO} (e : Same H H') (h : Rd H a o) : Rd H' a o := by
  rcases h with h | ⟨ob, h⟩
  · exact .inl (e _ _ h)
  · exact .inr ⟨ob, e _ _ h⟩
/-- a list that is read: tracked, frozen, or an object of the module, plainly laid -/
def LsX (K : PySem.W.Frag) (H : Hp) (a : Addr) (xs : List V) : Prop := Rd H a (.lst xs) ∨ ∃ (its : List Value) (n : Nat), K.lookup a = some { cls := .type "list", data := .seq its.toArray n } ∧ Vals xs its ∧ xs.length ≤ sizeLine
theorem LsX.mono {K : PySem.W.Frag} {H H' : Hp} {a : Addr} {xs : List V} (e : Same H H') (h : LsX K H a xs) : LsX K H' a xs := by
  rcases h with h | h
  · exact .inl (Fp.Rd.mono e h)
  · exact .inr h
theorem LsX.of {K : PySem.W.Frag} {H : Hp} {a : Addr} {xs : List V} (h : H a = some (.lst xs)) : LsX K H a xs := .inl (.inl h)
theorem LsX.sq {K : PySem.W.Frag} {H : Hp} {a : Addr} {xs : List V} (h : LsX K H a xs) : SqL K H a xs := by
  rcases h with h | ⟨its, n, h1, h2, h3⟩
  · exact .inl h
  · exact .inr ⟨_, its.toArray, n, h1, rfl, rfl, rfl, by rw [List.size_toArray, ← h2.length]; exact h3, by simpa using h2⟩
mutual
inductive Rp (K : PySem.W.Frag) (F : Hp) : V → D → Prop
  | non : Rp K F .non .none
  | bl (b : Bool) : Rp K F (.bl b) (.bool b)
  | int (i : Int) : Rp K F (.int i) (.int i)
  | str (x : Str) : Rp K F (.str x) (.str x)
  | lst {a : Addr} {xs : List V} {ds : List D} : LsX K F a xs → RpAll K F xs ds → Rp K F (.ref a) (.list ds)
  | tup {a : Addr} {xs : List V} {ds : List D} : SqT K F a xs → RpAll K F xs ds → Rp K F (.ref a) (.tuple ds)
inductive RpAll (K : PySem.W.Frag) (F : Hp) : List V → List D → Prop
  | nil : RpAll K F [] []
  | cons {v : V} {vs : List V} {d : D} {ds : List D} : Rp K F v d → RpAll K F vs ds → RpAll K F (v :: vs) (d :: ds)
end
section
variable {K : PySem.W.Frag} {F F' : Hp}
mutual
theorem Rp.dp : ∀ {v : V} {d : D}, Rp K F v d → Dp K F v d
  | _, _, .non => .non
  | _, _, .bl b => .bl b
  | _, _, .int i => .int i
  | _, _, .str x => .str x
  | _, _, .lst h t => .lst h.sq (RpAll.dp t)
  | _, _, .tup h t => .tup h (RpAll.dp t)
theorem RpAll.dp : ∀ {vs : List V} {ds : List D}, RpAll K F vs ds → DpAll K F vs ds
  | _, _, .nil => .nil
  | _, _, .cons h t => .cons (Rp.dp h) (RpAll.dp t)
end
mutual
theorem Rp.mono (e : Same F F') : ∀ {v : V} {d : D}, Rp K F v d → Rp K F' v d
  | _, _, .non => .non
  | _, _, .bl b => .bl b
  | _, _, .int i => .int i
  | _, _, .str x => .str x
  | _, _, .lst h t => .lst (LsX.mono e h) (RpAll.mono e t)
  | _, _, .tup h t => .tup (Fp.Same.seqT e h) (RpAll.mono e t)
theorem RpAll.mono (e : Same F F') : ∀ {vs : List V} {ds : List D}, RpAll K F vs ds → RpAll K F' vs ds
  | _, _, .nil => .nil
  | _, _, .cons h t => .cons (Rp.mono e h) (RpAll.mono e t)
end
theorem RpAll.length : ∀ {vs : List V} {ds : List D}, RpAll K F vs ds → vs.length = ds.length
  | _, _, .nil => rfl
  | _, _, .cons _ t => congrArg (· + 1) (RpAll.length t)
theorem RpAll.get : ∀ {vs : List V} {ds : List D} {i : Nat} {d : D}, RpAll K F vs ds → ds[i]? = some d → ∃ v, vs[i]? = some v ∧ Rp K F v d
  | _, _, _, _, .nil, e => by simp at e
  | _, _, 0, _, .cons h _, e => by
    have e' := Option.some.inj (by simpa using e)
    subst e'
    exact ⟨_, rfl, h⟩
  | _, _, i + 1, d, .cons _ t, e => by
    obtain ⟨v, h1, h2⟩ := RpAll.get (i := i) (d := d) t (by simpa using e)
    exact ⟨v, by simpa using h1, h2⟩
theorem RpAll.getV : ∀ {vs : List V} {ds : List D} {i : Nat} {v : V}, RpAll K F vs ds → vs[i]? = some v → ∃ d, ds[i]? = some d ∧ Rp K F v d
  | _, _, _, _, .nil, e => by simp at e
  | _, _, 0, _, .cons h _, e => by
    have e' := Option.some.inj (by simpa using e)
    subst e'
    exact ⟨_, rfl, h⟩
  | _, _, i + 1, d, .cons _ t, e => by
    obtain ⟨v, h1, h2⟩ := RpAll.getV (i := i) (v := d) t (by simpa using e)
    exact ⟨v, by simpa using h1, h2⟩
theorem RpAll.append : ∀ {vs ws : List V} {ds es : List D}, RpAll K F vs ds → RpAll K F ws es → RpAll K F (vs ++ ws) (ds ++ es)
  | _, _, _, _, .nil, s => s
  | _, _, _, _, .cons h t, s => .cons h (RpAll.append t s)
theorem RpAll.take : ∀ {vs : List V} {ds : List D} (n : Nat), RpAll K F vs ds → RpAll K F (vs.take n) (ds.take n)
  | _, _, 0, _ => .nil
  | _, _, _ + 1, .nil => .nil
  | _, _, n + 1, .cons h t => .cons h (RpAll.take n t)
theorem RpAll.drop : ∀ {vs : List V} {ds : List D} (n : Nat), RpAll K F vs ds → RpAll K F (vs.drop n) (ds.drop n)
  | _, _, 0, h => h
  | _, _, _ + 1, .nil => .nil
  | _, _, n + 1, .cons _ t => RpAll.drop n t
theorem RpAll.set {v : V} {d : D} (h : Rp K F v d) : ∀ {vs : List V} {ds : List D} (i : Nat), RpAll K F vs ds → RpAll K F (vs.set i v) (ds.set i d)
  | _, _, _, .nil => .nil
  | _, _, 0, .cons _ t => .cons h t
  | _, _, i + 1, .cons q t => .cons q (RpAll.set h i t)
theorem RpAll.eraseIdx : ∀ {vs : List V} {ds : List D} (i : Nat), RpAll K F vs ds → RpAll K F (vs.eraseIdx i) (ds.eraseIdx i)
  | _, _, _, .nil => .nil
  | _, _, 0, .cons _ t => t
  | _, _, i + 1, .cons q t => .cons q (RpAll.eraseIdx i t)
theorem RpAll.reverse {vs : List V} {ds : List D} (h : RpAll K F vs ds) : RpAll K F vs.reverse ds.reverse := by
  induction vs generalizing ds with
  | nil => cases h; exact .nil
  | cons v vs ih =>
    cases h with
    | cons h t =>
      rw [List.reverse_cons, List.reverse_cons]
      exact (ih t).append (.cons h .nil)
theorem RpAll.rep {vs : List V} {ds : List D} (h : RpAll K F vs ds) : ∀ k : Nat, RpAll K F (List.replicate k vs).flatten (List.replicate k ds).flatten
  | 0 => .nil
  | k + 1 => by
    rw [List.replicate_succ, List.replicate_succ, List.flatten_cons, List.flatten_cons]
    exact h.append (RpAll.rep h k)
/-! ### growth -/
/-- the frozen heap F and the heap H have grown to F', H' -/
structure Ext (F H F' H' : Hp) : Prop where
  ff : Same F F'
  hh : Same H H'
  sub : Same F' H'
  new : ∀ a o, F' a = some o → (∃ u, F a = some u) ∨ H a = none
theorem Ext.refl {F H : Hp} (h : Same F H) : Ext F H F H := ⟨Same.refl _, Same.refl _, h, fun a o e => .inl ⟨o, e⟩⟩
theorem Ext.trans {F H F1 H1 F2 H2 : Hp} (a : Ext F H F1 H1) (b : Ext F1 H1 F2 H2) : Ext F H F2 H2 :=
  ⟨a.ff.trans b.ff, a.hh.trans b.hh, b.sub, fun x o e => by
    rcases b.new x o e with ⟨u, h⟩ | h
    · exact a.new x u h
    · exact .inr (a.hh.free h)⟩
/-- a new object, frozen -/
theorem Ext.frozen {F H F' H' : Hp} {p : Addr} {o : HO} (e : Ext F H F' H') (hp : H' p = none) : Ext F H (upd F' p o) (upd H' p o) := by
  have hf : F' p = none := e.sub.free hp
  refine ⟨e.ff.trans (Fp.Same.upd hf), e.hh.trans (Fp.Same.upd hp), fun b u q => ?_, fun b u q => ?_⟩
  · by_cases hb : b = p
    · subst hb
      rw [upd_same] at q ⊢
      exact q
    · rw [upd_ne hb] at q ⊢
      exact e.sub b u q
  · by_cases hb : b = p
    · subst hb
      exact .inr (e.hh.free hp)
    · rw [upd_ne hb] at q
      exact e.new b u q
/-- a new object, not frozen -/
theorem Ext.loose {F H F' H' : Hp} {p : Addr} {o : HO} (e : Ext F H F' H') (hp : H' p = none) : Ext F H F' (upd H' p o) := by
  refine ⟨e.ff, e.hh.trans (Fp.Same.upd hp), e.sub.trans (Fp.Same.upd hp), e.new⟩
/-- what is tracked and not frozen stays so -/
theorem Ext.keep {F H F' H' : Hp} {p : Addr} {o : HO} (e : Ext F H F' H') (hp : H p = some o) (hf : F p = none) : F' p = none := by
  cases q : F' p with
  | none => rfl
  | some u =>
    rcases e.new p u q with ⟨z, h⟩ | h
    · rw [hf] at h; cases h
    · rw [hp] at h; cases h
/-! ### slots -/
/-- the exception that is handled: where it lies, what is known of its class -/
structure Ea where
  a : Addr
  ok : Str → Prop
/-- F0, H0: the frozen heap and the heap at the def's entry; ea: the exception that is handled -/
def SlotOk (K : PySem.W.Frag) (H0 F H : Hp) (ea : Ea) (s : Slot) (x : Option V) : Prop := match s with
  | .un => True
  | .val d => ∃ v, x = some v ∧ Rp K F v d
  | .own d => ∃ (a : Addr) (vs : List V) (ds : List D), x = some (.ref a) ∧ d = .list ds ∧ F a = none ∧ H0 a = none ∧ H a = some (.lst vs) ∧ RpAll K F vs ds
  | .exc n => x = some (.ref ea.a) ∧ ea.ok n
def ownA (s : Slot) (x : Option V) (a : Addr) : Prop := (∃ d, s = .own d) ∧ x = some (.ref a)
structure Rel (K : PySem.W.Frag) (F0 H0 : Hp) (ea : Ea) (env : Env) (σ : L2.St) (F H : Hp) : Prop where
  ext : Ext F0 H0 F H
  len : env.length = σ.length
  slot : ∀ (i : Nat) (s : Slot) (x : Option V), env[i]? = some s → σ[i]? = some x → SlotOk K H0 F H ea s x
  apart : ∀ (i j : Nat) (s t : Slot) (x y : Option V) (a : Addr), i ≠ j → env[i]? = some s → env[j]? = some t → σ[i]? = some x → σ[j]? = some y → ownA s x a → ¬ ownA t y a
end
end Fp

set_option Elab.async false
set_option linter.all false
set_option maxRecDepth 100000
set_option maxHeartbeats 1000000
/-! The readings by data; the rules of the operations. -/
namespace Fp
open PySem PySem.Spec PyProof.Rows L2
section
variable {K : PySem.W.Frag} {F F' H H' : Hp}
/-- frozen, or an owned list that is looked at -/
def RpB (K : PySem.W.Frag) (F H : Hp) (v : V) (d : D) : Prop := Rp K F v d ∨ ∃ a vs ds, v = .ref a ∧ d = .list ds ∧ H a = some (.lst vs) ∧ RpAll K F vs ds
theorem RpB.of {v : V} {d : D} (h : Rp K F v d) : RpB K F H v d := .inl h
theorem RpB.grow {v : V} {d : D} (e : Ext F H F' H') (h : RpB K F H v d) : RpB K F' H' v d := by
  rcases h with h | ⟨a, vs, ds, h1, h2, h3, h4⟩
  · exact .inl (h.mono e.ff)
  · exact .inr ⟨a, vs, ds, h1, h2, e.hh _ _ h3, h4.mono e.ff⟩
theorem RpB.int {v : V} {i : Int} (h : RpB K F H v (.int i)) : v = .int i := by
  rcases h with h | ⟨a, vs, ds, h1, h2, _⟩
  · cases h; rfl
  · cases h2
theorem RpB.str {v : V} {x : Str} (h : RpB K F H v (.str x)) : v = .str x := by
  rcases h with h | ⟨a, vs, ds, h1, h2, _⟩
  · cases h; rfl
  · cases h2
theorem RpB.bool {v : V} {b : Bool} (h : RpB K F H v (.bool b)) : v = .bl b := by
  rcases h with h | ⟨a, vs, ds, h1, h2, _⟩
  · cases h; rfl
  · cases h2
theorem RpB.list {v : V} {ds : List D} (s : Same F H) (h : RpB K F H v (.list ds)) : ∃ a vs, v = .ref a ∧ LsX K H a vs ∧ RpAll K F vs ds := by
  rcases h with h | ⟨a, vs, es, h1, h2, h3, h4⟩
  · cases h with
    | lst h t => exact ⟨_, _, rfl, LsX.mono s h, t⟩
  · cases h2; exact ⟨a, vs, h1, LsX.of h3, h4⟩
theorem RpB.tuple {v : V} {ds : List D} (s : Same F H) (h : RpB K F H v (.tuple ds)) : ∃ a vs, v = .ref a ∧ SqT K H a vs ∧ RpAll K F vs ds := by
  rcases h with h | ⟨a, vs, es, h1, h2, h3, h4⟩
  · cases h with
    | tup h t => exact ⟨_, _, rfl, Fp.Same.seqT s h, t⟩
  · cases h2
theorem RpB.dp {v : V} {d : D} (s : Same F H) (h : RpB K F H v d) : Dp K H v d := by
  rcases h with h | ⟨a, vs, es, h1, h2, h3, h4⟩
  · exact (h.mono s).dp
  · subst h1 h2; exact .lst (SqL.of h3) (h4.mono s).dp
/-! ### answers -/
def Ans (K : PySem.W.Frag) (F H : Hp) (x : R D) (Q : VK) (E : Str → Hp → Prop) : Prop := match x with
  | .ok d => ∀ v F' H', Ext F H F' H' → Rp K F' v d → Q v H'
  | .ex c => ∀ F' H', Ext F H F' H' → E c H'
  | .no => False
def AnsB (K : PySem.W.Frag) (F H : Hp) (x : R D) (Q : VK) (E : Str → Hp → Prop) : Prop := match x with
  | .ok d => ∀ v F' H', Ext F H F' H' → RpB K F' H' v d → Q v H'
  | .ex c => ∀ F' H', Ext F H F' H' → E c H'
  | .no => False
/-- a list is new, and not frozen -/
def AnsG (K : PySem.W.Frag) (F H : Hp) (x : R D) (Q : VK) (E : Str → Hp → Prop) : Prop := match x with
  | .ok d => (∀ v F' H', (∀ ds, d ≠ .list ds) → Ext F H F' H' → Rp K F' v d → Q v H') ∧
      ∀ ds p vs F' H', d = .list ds → H p = none → H' p = some (.lst vs) → F' p = none → Ext F H F' H' → RpAll K F' vs ds → Q (.ref p) H'
  | .ex c => ∀ F' H', Ext F H F' H' → E c H'
  | .no => False
def AnsL (K : PySem.W.Frag) (F H : Hp) (x : R (List D)) (Q : List V → Hp → Prop) (E : Str → Hp → Prop) : Prop := match x with
  | .ok ds => ∀ vs F' H', Ext F H F' H' → RpAll K F' vs ds → Q vs H'
  | .ex c => ∀ F' H', Ext F H F' H' → E c H'
  | .no => False
inductive RpBs (K : PySem.W.Frag) (F H : Hp) : List V → List D → Prop
  | nil : RpBs K F H [] []
  | cons {v : V} {vs : List V} {d : D} {ds : List D} : RpB K F H v d → RpBs K F H vs ds → RpBs K F H (v :: vs) (d :: ds)
theorem RpBs.grow (e : Ext F H F' H') : ∀ {vs : List V} {ds : List D}, RpBs K F H vs ds → RpBs K F' H' vs ds
  | _, _, .nil => .nil
  | _, _, .cons h t => .cons (h.grow e) (RpBs.grow e t)
def AnsLB (K : PySem.W.Frag) (F H : Hp) (x : R (List D)) (Q : List V → Hp → Prop) (E : Str → Hp → Prop) : Prop := match x with
  | .ok ds => ∀ vs F' H', Ext F H F' H' → RpBs K F' H' vs ds → Q vs H'
  | .ex c => ∀ F' H', Ext F H F' H' → E c H'
  | .no => False
def AnsT (F H : Hp) (x : R Bool) (Q : Bool → Hp → Prop) (E : Str → Hp → Prop) : Prop := match x with
  | .ok b => ∀ F' H', Ext F H F' H' → Q b H'
  | .ex c => ∀ F' H', Ext F H F' H' → E c H'
  | .no => False
variable {Q : VK} {E : Str → Hp → Prop}
theorem Ext.freeze {p : Addr} {o : HO} (e : Ext F H F' H') (hp : H p = none) (ho : H' p = some o) (hf : F' p = none) : Ext F H (upd F' p o) H' := by
  refine ⟨e.ff.trans (Fp.Same.upd hf), e.hh, fun b u q => ?_, fun b u q => ?_⟩
  · by_cases hb : b = p
    · subst hb; rw [upd_same] at q; rw [ho]; exact q
    · rw [upd_ne hb] at q; exact e.sub b u q
  · by_cases hb : b = p
    · subst hb; exact .inr hp
    · rw [upd_ne hb] at q; exact e.new b u q
theorem Ans.toG {x : R D} (h : Ans K F H x Q E) : AnsG K F H x Q E := by
  cases x with
  | no => exact h
  | ex c => exact h
  | ok d =>
    refine ⟨fun v F' H' _ e r => h v F' H' e r, fun ds p vs F' H' ed hp ho hf e r => ?_⟩
    subst ed
    exact h (.ref p) (upd F' p (.lst vs)) H' (e.freeze hp ho hf) (.lst (LsX.of upd_same) (r.mono (Fp.Same.upd hf)))
theorem AnsB.toA {x : R D} (h : AnsB K F H x Q E) : Ans K F H x Q E := by
  cases x with
  | no => exact h
  | ex c => exact h
  | ok d => exact fun v F' H' e r => h v F' H' e (.inl r)
theorem Ans.ext {x : R D} {F1 H1 : Hp} (h : Ans K F H x Q E) (e : Ext F H F1 H1) : Ans K F1 H1 x Q E := by
  cases x with
  | no => exact h
  | ex c => exact fun F' H' e' => h F' H' (e.trans e')
  | ok d => exact fun v F' H' e' r => h v F' H' (e.trans e') r
theorem AnsG.ext {x : R D} {F1 H1 : Hp} (h : AnsG K F H x Q E) (e : Ext F H F1 H1) : AnsG K F1 H1 x Q E := by
  cases x with
  | no => exact h
  | ex c => exact fun F' H' e' => h F' H' (e.trans e')
  | ok d => exact ⟨fun v F' H' n e' r => h.1 v F' H' n (e.trans e') r, fun ds p vs F' H' ed hp ho hf e' r => h.2 ds p vs F' H' ed (e.hh.free hp) ho hf (e.trans e') r⟩
theorem AnsT.ext {x : R Bool} {Q : Bool → Hp → Prop} {F1 H1 : Hp} (h : AnsT F H x Q E) (e : Ext F H F1 H1) : AnsT F1 H1 x Q E := by
  cases x with
  | no => exact h
  | ex c => exact fun F' H' e' => h F' H' (e.trans e')
  | ok d => exact fun F' H' e' => h F' H' (e.trans e')
theorem AnsL.ext {x : R (List D)} {Q : List V → Hp → Prop} {F1 H1 : Hp} (h : AnsL K F H x Q E) (e : Ext F H F1 H1) : AnsL K F1 H1 x Q E := by
  cases x with
  | no => exact h
  | ex c => exact fun F' H' e' => h F' H' (e.trans e')
  | ok d => exact fun v F' H' e' r => h v F' H' (e.trans e') r
theorem AnsLB.ext {x : R (List D)} {Q : List V → Hp → Prop} {F1 H1 : Hp} (h : AnsLB K F H x Q E) (e : Ext F H F1 H1) : AnsLB K F1 H1 x Q E := by
  cases x with
  | no => exact h
  | ex c => exact fun F' H' e' => h F' H' (e.trans e')
  | ok d => exact fun v F' H' e' r => h v F' H' (e.trans e') r
/-! ### results of operations: no refusal -/
abbrev NoE : Str → Hp → Prop := fun _ _ => False
def rOp2 (K : PySem.W.Frag) (f : D → D → R D) : R2 := fun x y H Q => ∃ F a b, Same F H ∧ RpB K F H x a ∧ RpB K F H y b ∧ Ans K F H (f a b) Q NoE
def rOp2G (K : PySem.W.Frag) (f : D → D → R D) : R2 := fun x y H Q => ∃ F a b, Same F H ∧ RpB K F H x a ∧ RpB K F H y b ∧ AnsG K F H (f a b) Q NoE
def rCmp2 (K : PySem.W.Frag) (f : D → D → R Bool) : R2 := fun x y H Q => ∃ F a b, Same F H ∧ RpB K F H x a ∧ RpB K F H y b ∧ AnsT F H (f a b) (fun k H' => Q (.bl k) H') NoE
theorem AnsT.ok {b : Bool} {Q : Bool → Hp → Prop} (s : Same F H) (h : AnsT F H (.ok b) Q E) : Q b H := h F H (.refl s)
theorem Ans.here {d : D} {v : V} (s : Same F H) (h : Ans K F H (.ok d) Q E) (r : Rp K F v d) : Q v H := h v F H (.refl s) r
theorem AnsG.here {d : D} {v : V} (s : Same F H) (h : AnsG K F H (.ok d) Q E) (n : ∀ ds, d ≠ .list ds) (r : Rp K F v d) : Q v H := h.1 v F H n (.refl s) r
theorem AnsG.new {ds : List D} {vs : List V} {p : Addr} (s : Same F H) (h : AnsG K F H (.ok (.list ds)) Q E) (hp : H p = none) (r : RpAll K F vs ds) : Q (.ref p) (upd H p (.lst vs)) :=
  h.2 ds p vs F _ rfl hp upd_same (s.free hp) ((Ext.refl s).loose hp) r
theorem AnsG.newT {ds : List D} {vs : List V} {p : Addr} (s : Same F H) (h : AnsG K F H (.ok (.tuple ds)) Q E) (hp : H p = none) (r : RpAll K F vs ds) : Q (.ref p) (upd H p (.tup vs)) :=
  h.1 (.ref p) (upd F p (.tup vs)) _ (fun _ e => nomatch e) ((Ext.refl s).frozen hp) (.tup (.inl (.inl upd_same)) (r.mono (Fp.Same.upd (s.free hp))))
theorem Ans.newT {ds : List D} {vs : List V} {p : Addr} (s : Same F H) (h : Ans K F H (.ok (.tuple ds)) Q E) (hp : H p = none) (r : RpAll K F vs ds) : Q (.ref p) (upd H p (.tup vs)) :=
  AnsG.newT s h.toG hp r
end
section
variable {X : Cx}
theorem fine_plain {d : D} (h : fine d = true) : d.plain = true ∧ d.depth ≤ 60 := by
  unfold fine at h
  rw [Bool.and_eq_true, decide_eq_true_eq] at h
  exact h
/-- room for some seventy C frames -/
structure Rm (X : Cx) : Prop where
  room : X.A.units + 70 < cLine
theorem Rm.in1 {X : Cx} {n m : Nat} (h : Rm X) (hn : n ≤ 60) : X.A.units + 1 + min n m < cLine := by
  have h := h.room
  have := Nat.min_le_left n m
  omega
theorem Rm.in0 {X : Cx} {n m : Nat} (h : Rm X) (hn : n ≤ 60) : X.A.units + min n m < cLine := by
  have h := h.room
  have := Nat.min_le_left n m
  omega
theorem Rm.in0' {X : Cx} {n m : Nat} (h : Rm X) (hn : m ≤ 60) : X.A.units + min n m < cLine := by
  have h := h.room
  have := Nat.min_le_right n m
  omega
/-! ### comparisons -/
theorem opc_eq (hr : Rm X) : OpR X (compareOp .Eq) (rCmp2 X.K dEq) := by
  intro pins s σ H x y v u Q I rx ry ⟨F, a, b, hs, ha, hb, h⟩
  obtain ⟨as, ra⟩ := Dp.reads I a x v (ha.dp hs) rx
  obtain ⟨bs, rb⟩ := Dp.reads I b y u (hb.dp hs) ry
  unfold dEq at h
  by_cases hf : (fine a && fine b) = true
  · rw [if_pos hf] at h
    rw [Bool.and_eq_true] at hf
    exact SeqAt.eq_plain ra rb (fine_plain hf.1).1 (fine_plain hf.2).1 (hr.in0 (fine_plain hf.1).2) ⟨.bl _, H, I, rfl, h.ok hs⟩
  · rw [if_neg hf] at h; exact h.elim
theorem opc_ne (hr : Rm X) : OpR X (compareOp .NotEq) (rCmp2 X.K fun a b => (dEq a b).bind fun k => .ok (!k)) := by
  intro pins s σ H x y v u Q I rx ry ⟨F, a, b, hs, ha, hb, h⟩
  obtain ⟨as, ra⟩ := Dp.reads I a x v (ha.dp hs) rx
  obtain ⟨bs, rb⟩ := Dp.reads I b y u (hb.dp hs) ry
  have h : AnsT F H ((dEq a b).bind fun k => .ok (!k)) (fun k H' => Q (.bl k) H') NoE := h
  unfold dEq at h
  by_cases hf : (fine a && fine b) = true
  · rw [if_pos hf] at h
    rw [Bool.and_eq_true] at hf
    exact SeqAt.ne_plain ra rb (fine_plain hf.1).1 (fine_plain hf.2).1 (hr.in0 (fine_plain hf.1).2) ⟨.bl _, H, I, rfl, h.ok hs⟩
  · rw [if_neg hf] at h; exact h.elim
theorem cmp_facts {a b : D} (h : (PySem.W.alike a b && PySem.W.alike b a && !noneD a && !noneD b && decide (a.depth ≤ 60)) = true) :
    PySem.W.alike a b = true ∧ PySem.W.alike b a = true ∧ a ≠ .none ∧ b ≠ .none ∧ a.depth ≤ 60 := by
  simp only [Bool.and_eq_true, decide_eq_true_eq, Bool.not_eq_true'] at h
  obtain ⟨⟨⟨⟨h1, h2⟩, h3⟩, h4⟩, h5⟩ := h
  refine ⟨h1, h2, fun e => ?_, fun e => ?_, h5⟩
  · rw [e] at h3; cases h3
  · rw [e] at h4; cases h4
theorem opc_lt (hr : Rm X) : OpR X (compareOp .Lt) (rCmp2 X.K dLt) := by
  intro pins s σ H x y v u Q I rx ry ⟨F, a, b, hs, ha, hb, h⟩
  obtain ⟨as, ra⟩ := Dp.reads I a x v (ha.dp hs) rx
  obtain ⟨bs, rb⟩ := Dp.reads I b y u (hb.dp hs) ry
  unfold dLt at h
  split at h
  · rename_i hf
    obtain ⟨f1, f2, f3, f4, f5⟩ := cmp_facts hf
    exact PySem.W.lt_data ra rb f1 f3 (hr.in0 f5) ⟨.bl _, H, I, rfl, h.ok hs⟩
  · exact h.elim
theorem opc_le (hr : Rm X) : OpR X (compareOp .LtE) (rCmp2 X.K dLe) := by
  intro pins s σ H x y v u Q I rx ry ⟨F, a, b, hs, ha, hb, h⟩
  obtain ⟨as, ra⟩ := Dp.reads I a x v (ha.dp hs) rx
  obtain ⟨bs, rb⟩ := Dp.reads I b y u (hb.dp hs) ry
  unfold dLe at h
  split at h
  · rename_i hf
    obtain ⟨f1, f2, f3, f4, f5⟩ := cmp_facts hf
    exact PySem.W.le_data ra rb f1 f3 (hr.in0 f5) ⟨.bl _, H, I, rfl, h.ok hs⟩
  · exact h.elim
theorem opc_gt (hr : Rm X) : OpR X (compareOp .Gt) (rCmp2 X.K fun a b => dLt b a) := by
  intro pins s σ H x y v u Q I rx ry ⟨F, a, b, hs, ha, hb, h⟩
  obtain ⟨as, ra⟩ := Dp.reads I a x v (ha.dp hs) rx
  obtain ⟨bs, rb⟩ := Dp.reads I b y u (hb.dp hs) ry
  have h : AnsT F H (dLt b a) (fun k H' => Q (.bl k) H') NoE := h
  unfold dLt at h
  split at h
  · rename_i hf
    obtain ⟨f1, f2, f3, f4, f5⟩ := cmp_facts hf
    exact PySem.W.gt_data ra rb f2 f4 (hr.in0' f5) ⟨.bl _, H, I, rfl, h.ok hs⟩
  · exact h.elim
theorem opc_ge (hr : Rm X) : OpR X (compareOp .GtE) (rCmp2 X.K fun a b => dLe b a) := by
  intro pins s σ H x y v u Q I rx ry ⟨F, a, b, hs, ha, hb, h⟩
  obtain ⟨as, ra⟩ := Dp.reads I a x v (ha.dp hs) rx
  obtain ⟨bs, rb⟩ := Dp.reads I b y u (hb.dp hs) ry
  have h : AnsT F H (dLe b a) (fun k H' => Q (.bl k) H') NoE := h
  unfold dLe at h
  split at h
  · rename_i hf
    obtain ⟨f1, f2, f3, f4, f5⟩ := cmp_facts hf
    exact PySem.W.ge_data ra rb f2 f4 (hr.in0' f5) ⟨.bl _, H, I, rfl, h.ok hs⟩
  · exact h.elim
theorem fine_list {ds : List D} (h : fine (.list ds) = true) : PyData.plainAll ds = true ∧ PyData.depthAll ds ≤ 60 := by
  obtain ⟨h1, h2⟩ := fine_plain h
  refine ⟨by simpa only [PyData.plain] using h1, ?_⟩
  simp only [PyData.depth] at h2
  omega
theorem fine_tuple {ds : List D} (h : fine (.tuple ds) = true) : PyData.plainAll ds = true ∧ PyData.depthAll ds ≤ 60 := by
  obtain ⟨h1, h2⟩ := fine_plain h
  refine ⟨by simpa only [PyData.plain] using h1, ?_⟩
  simp only [PyData.depth] at h2
  omega
theorem opc_in (hr : Rm X) (n : Bool) : OpR X (compareOp (if n = true then .NotIn else .In)) (rCmp2 X.K fun a b => (dIn a b).bind fun k => .ok (n != k)) := by
  intro pins s σ H x y v u Q I rx ry ⟨F, a, b, hs, ha, hb, h⟩
  obtain ⟨as, ra⟩ := Dp.reads I a x v (ha.dp hs) rx
  have h : AnsT F H ((dIn a b).bind fun k => .ok (n != k)) (fun k H' => Q (.bl k) H') NoE := h
  cases b with
  | list ds =>
    obtain ⟨bs, rb⟩ := Dp.reads I (.list ds) y u (hb.dp hs) ry
    simp only [dIn] at h
    by_cases hf : (fine a && fine (.list ds)) = true
    · rw [if_pos hf] at h
      rw [Bool.and_eq_true] at hf
      have q := h.ok hs
      cases n with
      | false => exact SeqAt.in_list_data rb ra (fine_list hf.2).1 (fine_plain hf.1).1 (hr.in1 (fine_list hf.2).2) ⟨.bl _, H, I, rfl, by simpa using q⟩
      | true => exact SeqAt.notIn_list_data rb ra (fine_list hf.2).1 (fine_plain hf.1).1 (hr.in1 (fine_list hf.2).2) ⟨.bl _, H, I, rfl, by simpa using q⟩
    · rw [if_neg hf] at h; exact h.elim
  | tuple ds =>
    obtain ⟨bs, rb⟩ := Dp.reads I (.tuple ds) y u (hb.dp hs) ry
    simp only [dIn] at h
    by_cases hf : (fine a && fine (.tuple ds)) = true
    · rw [if_pos hf] at h
      rw [Bool.and_eq_true] at hf
      have q := h.ok hs
      cases n with
      | false => exact SeqAt.in_tuple_data rb ra (fine_tuple hf.2).1 (fine_plain hf.1).1 (hr.in1 (fine_tuple hf.2).2) ⟨.bl _, H, I, rfl, by simpa using q⟩
      | true => exact SeqAt.notIn_tuple_data rb ra (fine_tuple hf.2).1 (fine_plain hf.1).1 (hr.in1 (fine_tuple hf.2).2) ⟨.bl _, H, I, rfl, by simpa using q⟩
    · rw [if_neg hf] at h; exact h.elim
  | str z =>
    cases a with
    | str c =>
      simp only [dIn] at h
      split at h
      · rename_i k hk
        have hc : c = ⟨#[k]⟩ := by
          obtain ⟨l⟩ := c
          congr 1
          exact Array.ext' (by simpa using hk)
        subst hc
        have q := h.ok hs
        cases ha.str
        cases hb.str
        cases n with
        | false => exact op_in_sign pins s σ H _ _ v u Q I rx ry ⟨k, z, rfl, rfl, by simpa using q⟩
        | true => exact op_notIn_sign pins s σ H _ _ v u Q I rx ry ⟨k, z, rfl, rfl, by simpa using q⟩
      · exact h.elim
    | _ => exact h.elim
  | _ => exact h.elim
end
end Fp

set_option Elab.async false
set_option linter.all false
set_option maxRecDepth 100000
set_option maxHeartbeats 1000000
/-! Operators, subscripts, slices, built-in calls, by data. -/
namespace Fp
open PySem PySem.Spec PyProof.Rows L2
section
variable {X : Cx} {pins : List (Addr × Obj)} {σ : L2.St} {H : Hp} {s : Shared}
theorem sz_eq : (sizeLine : Nat) = 16777216 := sizeLine_eq
/-- a list that is read: its object -/
theorem rd_list {a : Addr} {xs : List V} (I : Inv X pins σ H s) (h : LsX X.K H a xs) : xs.length ≤ sizeLine ∧ ∃ (its : List Value) (n : Nat), Vals xs its ∧ xs.length = its.length ∧ s.heap.get? a = some { cls := .type "list", data := .seq its.toArray n } := by
  rcases h with h | ⟨its, n, h1, h2, h3⟩
  · obtain ⟨z, its, n, r, e⟩ := h.ok I.hok
    exact ⟨z, its, n, r, r.length, e⟩
  · exact ⟨h3, its, n, h2, h2.length, I.kIn _ _ h1⟩
theorem rd_len {K : PySem.W.Frag} {F : Hp} {vs : List V} {ds : List D} (r : RpAll K F vs ds) : vs.length = ds.length := r.length
/-! ### list + list, list * int, of lists that are read -/
def rCatR (K : PySem.W.Frag) : R2 := fun x y H Q => ∃ l b xs zs, x = .ref l ∧ y = .ref b ∧ LsX K H l xs ∧ LsX K H b zs ∧ xs.length + zs.length ≤ sizeLine ∧ ∀ p, H p = none → Q (.ref p) (upd H p (.lst (xs ++ zs)))
theorem op_catR : OpR X (binaryOp .Add) (rCatR X.K) := by
  intro pins s σ H x y v u Q I rx ry h
  obtain ⟨l, b, xs, zs, rfl, rfl, hH, hB, hz, q⟩ := h
  cases rx
  cases ry
  obtain ⟨z, its, n, r, hl, e⟩ := rd_list I hH
  obtain ⟨z2, its2, n2, r2, hl2, e2⟩ := rd_list I hB
  refine PySem.P.add_list e e2 ?_ (by rw [List.size_toArray, List.size_toArray]; omega)
  have ea : its.toArray ++ its2.toArray = (its ++ its2).toArray := by simp
  rw [ea]
  exact ⟨.ref _, _, I.lnew (t' := s.toks) (r.append r2) (by rw [List.length_append]; omega), rfl, q _ I.fresh⟩
def rRepR (K : PySem.W.Frag) : R2 := fun x y H Q => ∃ l k xs, x = .ref l ∧ y = .int k ∧ LsX K H l xs ∧ -(2 ^ 63) ≤ k ∧ k < 2 ^ 63 ∧ xs.length * k.toNat ≤ sizeLine ∧
  ∀ p, H p = none → Q (.ref p) (upd H p (.lst (List.replicate k.toNat xs).flatten))
theorem op_repR : OpR X (binaryOp .Mult) (rRepR X.K) := by
  intro pins s σ H x y v u Q I rx ry h
  obtain ⟨l, k, xs, rfl, rfl, hH, h1, h2, hz, q⟩ := h
  cases rx
  obtain ⟨t, rfl⟩ := ry
  obtain ⟨z, its, n, r, hl, e⟩ := rd_list I hH
  have hlen : its.toArray.size * k.toNat ≤ sizeLine := by rw [List.size_toArray, ← hl]; exact hz
  have hcap : ¬ its.toArray.size * k.toNat > (2 ^ 63 - 1) / 8 := by
    have : (sizeLine : Nat) ≤ (2 ^ 63 - 1) / 8 := by decide
    omega
  have hfit : ¬ (!Builtin.List.listFitsIndex k) = true := by
    rw [fitsIndex_both h1 h2]
    exact Bool.false_ne_true
  have hlong : ¬ Builtin.List.listTooLong (its.toArray.size * k.toNat) = true := by
    rw [notLongL hlen]
    exact Bool.false_ne_true
  have hnew : List.foldl (fun x1 x2 => x1 ++ x2) #[] (List.replicate (if its.toArray.isEmpty = true then 0 else k.toNat) its.toArray) = (List.replicate k.toNat its).flatten.toArray := by
    have f0 : ∀ m : Nat, List.foldl (fun x1 x2 => x1 ++ x2) #[] (List.replicate m its.toArray) = (List.replicate m its).flatten.toArray := fun m => by
      have := foldl_rep its m []
      rw [List.nil_append] at this
      exact this
    rw [f0]
    cases its with
    | nil => simp
    | cons a r' => rw [if_neg (by simp)]
  refine wpAny_binaryOp_repeat_ref (T := "list") (U := "int") (by decide) ⟨_, e, rfl⟩ (fun s' => typeIs_int s' k t) noFill_list_mul F.fills_int_mul F.slot_int_rmul repeat_list F.slot_int_index.lookup
    (call_meets F.slot_int_rmul (typeIs_int s k t) F.entry_int_rmul (F.args_int_rmul_2 _ _) (int___rmul___int_list k t l its.toArray n)
      ⟨e, rfl, ⟨_, e, rfl⟩, call_meets F.slot_list_mul ⟨_, e, rfl⟩ F.entry_list_mul (F.args_list_mul_2 _ _) (AutoListH.list___mul___list_int_3 l its.toArray n k t hfit hcap hlong) ⟨e, ?_⟩⟩)
  rw [hnew]
  exact ⟨.ref _, _, I.lnew (t' := s.toks) (r.rep k.toNat) (by rw [PyProof.Rows.lm_len_rep_flat, Nat.mul_comm]; exact hz), rfl, q _ I.fresh⟩
/-! ### the operators -/
theorem opd_add : OpR X (binaryOp .Add) (rOp2G X.K dAdd) := by
  intro pins s σ H x y v u Q I rx ry ⟨F, a, b, hs, ha, hb, h⟩
  cases a with
  | int i =>
    cases b with
    | int j =>
      cases ha.int; cases hb.int
      exact op_add pins s σ H _ _ v u Q I rx ry ⟨i, j, rfl, rfl, h.here hs (fun _ e => nomatch e) (.int _)⟩
    | _ => exact h.elim
  | str i =>
    cases b with
    | str j =>
      cases ha.str; cases hb.str
      simp only [dAdd] at h
      split at h
      · rename_i hz
        exact op_add_str pins s σ H _ _ v u Q I rx ry ⟨i, j, rfl, rfl, by rw [sz_eq]; exact hz, h.here hs (fun _ e => nomatch e) (.str _)⟩
      · exact h.elim
    | _ => exact h.elim
  | list ds =>
    cases b with
    | list es =>
      obtain ⟨p, vs, rfl, h1, r1⟩ := ha.list hs
      obtain ⟨q, ws, rfl, h2, r2⟩ := hb.list hs
      simp only [dAdd] at h
      split at h
      · rename_i hz
        exact op_catR pins s σ H _ _ v u Q I rx ry ⟨p, q, vs, ws, rfl, rfl, h1, h2, by rw [sz_eq, r1.length, r2.length]; exact hz, fun l hl => h.new hs hl (r1.append r2)⟩
      · exact h.elim
    | _ => exact h.elim
  | tuple ds =>
    cases b with
    | tuple es =>
      obtain ⟨p, vs, rfl, h1, r1⟩ := ha.tuple hs
      obtain ⟨q, ws, rfl, h2, r2⟩ := hb.tuple hs
      simp only [dAdd] at h
      split at h
      · rename_i hz
        have fa : Rp X.K F (.ref p) (.tuple ds) := by
          rcases ha with h | ⟨_, _, _, _, e, _⟩
          · exact h
          · cases e
        have fb : Rp X.K F (.ref q) (.tuple es) := by
          rcases hb with h | ⟨_, _, _, _, e, _⟩
          · exact h
          · cases e
        refine op_catA pins s σ H _ _ v u Q I rx ry ⟨p, q, vs, ws, rfl, rfl, h1, h2, by rw [sz_eq, r1.length, r2.length]; exact hz, fun e => ?_, fun _ e => ?_, fun _ _ l hl => h.newT hs hl (r1.append r2)⟩
        · have : ds = [] := by
            have := r1.length
            rw [e] at this
            exact List.eq_nil_of_length_eq_zero this.symm
          subst this
          exact h.here hs (fun _ e => nomatch e) fb
        · have : es = [] := by
            have := r2.length
            rw [e] at this
            exact List.eq_nil_of_length_eq_zero this.symm
          subst this
          rw [List.append_nil] at h
          exact h.here hs (fun _ e => nomatch e) fa
      · exact h.elim
    | _ => exact h.elim
  | _ => exact h.elim
theorem opd_mul : OpR X (binaryOp .Mult) (rOp2G X.K dMul) := by
  intro pins s σ H x y v u Q I rx ry ⟨F, a, b, hs, ha, hb, h⟩
  cases a with
  | int i =>
    cases b with
    | int j =>
      cases ha.int; cases hb.int
      simp only [dMul] at h
      split at h
      · rename_i hz
        simp only [Bool.or_eq_true, Bool.and_eq_true, decide_eq_true_eq] at hz
        exact op_mul pins s σ H _ _ v u Q I rx ry ⟨i, j, rfl, rfl, hz, h.here hs (fun _ e => nomatch e) (.int _)⟩
      · exact h.elim
    | _ => exact h.elim
  | list ds =>
    cases b with
    | int j =>
      obtain ⟨p, vs, rfl, h1, r1⟩ := ha.list hs
      cases hb.int
      simp only [dMul] at h
      split at h
      · rename_i hz
        simp only [Bool.and_eq_true, decide_eq_true_eq] at hz
        obtain ⟨⟨z1, z2⟩, z3⟩ := hz
        exact op_repR pins s σ H _ _ v u Q I rx ry ⟨p, j, vs, rfl, rfl, h1, by omega, by omega, by rw [sz_eq, r1.length]; exact z3, fun l hl => h.new hs hl (r1.rep _)⟩
      · exact h.elim
    | _ => exact h.elim
  | tuple ds =>
    cases b with
    | int j =>
      obtain ⟨p, vs, rfl, h1, r1⟩ := ha.tuple hs
      cases hb.int
      simp only [dMul] at h
      split at h
      · rename_i hz
        simp only [Bool.and_eq_true, decide_eq_true_eq, Bool.not_eq_true'] at hz
        obtain ⟨⟨⟨z1, z2⟩, z3⟩, z4⟩ := hz
        have hne : vs ≠ [] := fun e => by
          have := r1.length
          rw [e] at this
          rw [List.eq_nil_of_length_eq_zero this.symm] at z4
          cases z4
        exact op_repT pins s σ H _ _ v u Q I rx ry ⟨p, j, vs, rfl, rfl, h1, hne, z1, z2, by rw [r1.length]; exact z3, fun l hl => h.newT hs hl (r1.rep _)⟩
      · exact h.elim
    | _ => exact h.elim
  | _ => exact h.elim
theorem intOp {f : Value → Value → Sem Value} {C : Int → Int → Prop} {g : Int → Int → Int} {t : D → D → R D} (ho : OpR X f (rI C fun i j => .int (g i j)))
    (hi : ∀ i j x, t (.int i) (.int j) = x → x = .no ∨ (C i j ∧ x = .ok (.int (g i j)))) (hn : ∀ a b, (∀ i, a ≠ .int i) ∨ (∀ j, b ≠ .int j) → t a b = .no) : OpR X f (rOp2G X.K t) := by
  intro pins s σ H x y v u Q I rx ry ⟨F, a, b, hs, ha, hb, h⟩
  by_cases h1 : ∃ i, a = .int i
  · obtain ⟨i, rfl⟩ := h1
    by_cases h2 : ∃ j, b = .int j
    · obtain ⟨j, rfl⟩ := h2
      cases ha.int; cases hb.int
      rcases hi i j _ rfl with e | ⟨hc, e⟩
      · rw [e] at h; exact h.elim
      · rw [e] at h
        exact ho pins s σ H _ _ v u Q I rx ry ⟨i, j, rfl, rfl, hc, h.here hs (fun _ e => nomatch e) (.int _)⟩
    · rw [hn _ _ (.inr fun j e => h2 ⟨j, e⟩)] at h; exact h.elim
  · rw [hn _ _ (.inl fun i e => h1 ⟨i, e⟩)] at h; exact h.elim
theorem dbin_none {o : Bop} (ho : o = .sub ∨ o = .fdiv ∨ o = .mod ∨ o = .pow) (a b : D) (h : (∀ i, a ≠ .int i) ∨ (∀ j, b ≠ .int j)) : dBin o a b = .no := by
  rcases ho with rfl | rfl | rfl | rfl <;> rcases h with h | h <;> cases a <;> cases b <;> first
    | rfl
    | exact absurd rfl (h _)
theorem opd_sub : OpR X (binaryOp .Sub) (rOp2G X.K (dBin .sub)) := intOp (C := fun _ _ => True) (g := fun i j => i - j) (fun pins s σ H x y v u Q I rx ry ⟨i, j, e1, e2, _, q⟩ => op_sub pins s σ H x y v u Q I rx ry ⟨i, j, e1, e2, q⟩)
  (fun i j x e => .inr ⟨trivial, e.symm⟩) (dbin_none (.inl rfl))
theorem opd_fdiv : OpR X (binaryOp .FloorDiv) (rOp2G X.K (dBin .fdiv)) := intOp (C := CDivW) (g := fun i j => i / j) op_fdivW
  (fun i j x e => by
    simp only [dBin] at e
    split at e
    · rename_i hz
      simp only [Bool.and_eq_true, decide_eq_true_eq] at hz
      exact .inr ⟨hz, e.symm⟩
    · exact .inl e.symm) (dbin_none (.inr (.inl rfl)))
theorem opd_mod : OpR X (binaryOp .Mod) (rOp2G X.K (dBin .mod)) := intOp (C := fun _ j => 0 < j) (g := fun i j => i % j) op_mod
  (fun i j x e => by
    simp only [dBin] at e
    split at e
    · rename_i hz
      exact .inr ⟨hz, e.symm⟩
    · exact .inl e.symm) (dbin_none (.inr (.inr (.inl rfl))))
theorem opd_pow : OpR X (binaryOp .Pow) (rOp2G X.K (dBin .pow)) := intOp (C := CPow) (g := fun i j => i ^ j.toNat) op_pow
  (fun i j x e => by
    simp only [dBin] at e
    split at e
    · rename_i hz
      simp only [Bool.and_eq_true, decide_eq_true_eq] at hz
      exact .inr ⟨⟨hz.1.1, hz.1.2, hz.2⟩, e.symm⟩
    · exact .inl e.symm) (dbin_none (.inr (.inr (.inr rfl))))
theorem opd {o : Bop} {op : Operator} (h : bopIs o op = true) : OpR X (binaryOp op) (rOp2G X.K (dBin o)) := by
  cases o <;> cases op <;> first
    | exact absurd h (by decide)
    | exact opd_add
    | exact opd_sub
    | exact opd_mul
    | exact opd_fdiv
    | exact opd_mod
    | exact opd_pow
theorem opc {o : Cop} {op : CmpOp} (hr : Rm X) (h : copIs o op = true) : OpR X (compareOp op) (rCmp2 X.K (dCmp o)) := by
  cases o <;> cases op <;> first
    | exact absurd h (by decide)
    | exact opc_eq hr
    | exact opc_ne hr
    | exact opc_lt hr
    | exact opc_gt hr
    | exact opc_le hr
    | exact opc_ge hr
    | skip
  · intro pins s σ H x y v u Q I rx ry ⟨F, a, b, hs, ha, hb, h⟩
    refine opc_in hr false pins s σ H x y v u Q I rx ry ⟨F, a, b, hs, ha, hb, ?_⟩
    have e : ((dIn a b).bind fun k => R.ok (false != k)) = dIn a b := by cases dIn a b <;> simp [R.bind]
    show AnsT F H ((dIn a b).bind fun k => R.ok (false != k)) _ _
    rw [e]
    exact h
  · intro pins s σ H x y v u Q I rx ry ⟨F, a, b, hs, ha, hb, h⟩
    refine opc_in hr true pins s σ H x y v u Q I rx ry ⟨F, a, b, hs, ha, hb, ?_⟩
    have e : ((dIn a b).bind fun k => R.ok (true != k)) = (dIn a b).bind fun k => R.ok (!k) := by cases dIn a b <;> simp [R.bind]
    show AnsT F H ((dIn a b).bind fun k => R.ok (true != k)) _ _
    rw [e]
    exact h
/-! ### subscripts, slices -/
theorem ofO_ok {α : Type} {o : Option α} {a : α} (h : o = some a) : ofO o = .ok a := by rw [h]; rfl
theorem atI_rp {K : PySem.W.Frag} {F : Hp} {vs : List V} {ds : List D} {i : Int} {d : D} (r : RpAll K F vs ds) (h : atI ds i = some d) : ∃ v, atI vs i = some v ∧ Rp K F v d := by
  unfold atI at h ⊢
  rw [r.length]
  cases e : ixN ds.length i with
  | none => rw [e] at h; cases h
  | some j =>
    rw [e] at h
    obtain ⟨v, h1, h2⟩ := r.get (show ds[j]? = some d from h)
    exact ⟨v, h1, h2⟩
theorem ixd : IxR X (rOp2 X.K dIdx) := by
  intro value slice pins s σ H x y v u Q I rx ry ⟨F, a, b, hs, ha, hb, h⟩ hsub
  cases a with
  | list ds =>
    cases b with
    | int i =>
      obtain ⟨p, vs, rfl, h1, r1⟩ := ha.list hs
      cases hb.int
      have h : Ans X.K F H (ofO (atI ds i)) Q NoE := h
      cases e : atI ds i with
      | none => rw [e] at h; exact h.elim
      | some d =>
        rw [e] at h
        obtain ⟨w, e1, r⟩ := atI_rp r1 e
        exact ix_list value slice pins s σ H _ _ v u Q I rx ry ⟨p, vs, i, w, rfl, rfl, h1.sq, e1, Ans.here hs h r⟩ hsub
    | _ => exact h.elim
  | tuple ds =>
    cases b with
    | int i =>
      obtain ⟨p, vs, rfl, h1, r1⟩ := ha.tuple hs
      cases hb.int
      have h : Ans X.K F H (ofO (atI ds i)) Q NoE := h
      cases e : atI ds i with
      | none => rw [e] at h; exact h.elim
      | some d =>
        rw [e] at h
        obtain ⟨w, e1, r⟩ := atI_rp r1 e
        exact ix_tup value slice pins s σ H _ _ v u Q I rx ry ⟨p, vs, i, w, rfl, rfl, h1, e1, Ans.here hs h r⟩ hsub
    | _ => exact h.elim
  | str z =>
    cases b with
    | int i =>
      cases ha.str; cases hb.int
      simp only [dIdx] at h
      split at h
      · rename_i hz
        cases e : atI z.cps.toList i with
        | none => rw [e] at h; exact h.elim
        | some c =>
          rw [e] at h
          exact ix_str value slice pins s σ H _ _ v u Q I rx ry ⟨z, i, c, rfl, rfl, by rw [sz_eq]; exact of_decide_eq_true hz, e, Ans.here hs h (.str _)⟩ hsub
      · exact h.elim
    | _ => exact h.elim
  | _ => exact h.elim
theorem cut_rp {K : PySem.W.Frag} {F : Hp} {vs : List V} {ds : List D} (lo hi : Option Int) (r : RpAll K F vs ds) : RpAll K F (cutV vs lo hi) (cutD ds lo hi) := by
  unfold cutV cutD
  rw [r.length]
  exact (r.drop _).take _
theorem cutD_whole {ds : List D} {lo hi : Option Int} (h : HT.sIx ds.length 0 lo = 0 ∧ HT.sIx ds.length ds.length hi = ds.length) : cutD ds lo hi = ds := by
  unfold cutD
  rw [h.1, h.2, List.drop_zero, Nat.sub_zero, List.take_length]
def rSlD (K : PySem.W.Frag) : V → Option Int → Option Int → Hp → VK → Prop := fun x lo hi H Q => ∃ F a, Same F H ∧ RpB K F H x a ∧ AnsG K F H (dSli a lo hi) Q NoE
theorem sld : SlR X (rSlD X.K) := by
  intro pins s σ H x v vl vu lo hi sl Q I rx hsl pl pu ⟨F, a, hs, ha, h⟩
  cases a with
  | list ds =>
    obtain ⟨p, vs, rfl, h1, r1⟩ := ha.list hs
    exact sl_list pins s σ H _ v vl vu lo hi sl Q I rx hsl pl pu ⟨p, vs, rfl, h1.sq, fun l hl => AnsG.new hs h hl (cut_rp lo hi r1)⟩
  | tuple ds =>
    obtain ⟨p, vs, rfl, h1, r1⟩ := ha.tuple hs
    have fa : Rp X.K F (.ref p) (.tuple ds) := by
      rcases ha with h | ⟨_, _, _, _, e, _⟩
      · exact h
      · cases e
    refine sl_tupA pins s σ H _ v vl vu lo hi sl Q I rx hsl pl pu ⟨p, vs, rfl, h1, fun hw => ?_, fun _ l hl => AnsG.newT hs h hl (cut_rp lo hi r1)⟩
    rw [r1.length] at hw
    have h : AnsG X.K F H (.ok (.tuple (cutD ds lo hi))) Q NoE := h
    rw [cutD_whole hw] at h
    exact h.here hs (fun _ e => nomatch e) fa
  | _ => exact h.elim
end
end Fp

set_option Elab.async false
set_option linter.all false
set_option maxRecDepth 100000
set_option maxHeartbeats 1000000
/-! Built-in calls and methods, by data. -/
namespace Fp
open PySem PySem.Spec PyProof.Rows L2
/-- what a built-in's answer asks: the least of a list is no new object -/
def AnsX (b : Blt) (K : PySem.W.Frag) (F H : Hp) (x : R D) (Q : VK) (E : Str → Hp → Prop) : Prop := match b with
  | .min1 => Ans K F H x Q E
  | _ => AnsG K F H x Q E
def rBl (K : PySem.W.Frag) (b : Blt) : List V → Hp → VK → Prop := fun xs H Q => ∃ F ds, Same F H ∧ RpBs K F H xs ds ∧ AnsX b K F H (dBlt b ds) Q NoE
def bltV : Blt → Value
  | .len => .builtin "len"
  | .all => .builtin "all"
  | .any => .builtin "any"
  | .sum => .builtin "sum"
  | .list => .type "list"
  | .tuple => .type "tuple"
  | .sorted => .builtin "sorted"
  | .min1 => .builtin "min"
  | .max2 => .builtin "max"
  | .min2 => .builtin "min"
section
variable {K : PySem.W.Frag} {F H : Hp}
theorem bools_of : ∀ {vs : List V} {ds : List D} {bs : List Bool}, RpAll K F vs ds → boolsD ds = .ok bs → vs = bs.map V.bl
  | _, _, bs, .nil, e => by
    cases e; rfl
  | _, _, bs, .cons (d := d) h t, e => by
    cases d with
    | bool b =>
      simp only [boolsD] at e
      cases q : boolsD _ with
      | ok cs =>
        rw [q] at e
        cases e
        cases h
        rw [List.map_cons, bools_of t q]
      | ex c => rw [q] at e; cases e
      | no => rw [q] at e; cases e
    | _ => cases e
theorem ints_of : ∀ {vs : List V} {ds : List D} {bs : List Int}, RpAll K F vs ds → intsD ds = .ok bs → vs = bs.map V.int
  | _, _, bs, .nil, e => by
    cases e; rfl
  | _, _, bs, .cons (d := d) h t, e => by
    cases d with
    | int b =>
      simp only [intsD] at e
      cases q : intsD _ with
      | ok cs =>
        rw [q] at e
        cases e
        cases h
        rw [List.map_cons, ints_of t q]
      | ex c => rw [q] at e; cases e
      | no => rw [q] at e; cases e
    | _ => cases e
theorem boolsD_ex : ∀ (ds : List D) (c : Str), boolsD ds ≠ .ex c
  | [], _, e => by cases e
  | d :: r, c, e => by
    cases d with
    | bool b =>
      simp only [boolsD] at e
      cases q : boolsD r with
      | ok cs => rw [q] at e; cases e
      | ex c' => exact boolsD_ex r c' q
      | no => rw [q] at e; cases e
    | _ => cases e
theorem intsD_ex : ∀ (ds : List D) (c : Str), intsD ds ≠ .ex c
  | [], _, e => by cases e
  | d :: r, c, e => by
    cases d with
    | int b =>
      simp only [intsD] at e
      cases q : intsD r with
      | ok cs => rw [q] at e; cases e
      | ex c' => exact intsD_ex r c' q
      | no => rw [q] at e; cases e
    | _ => cases e
theorem each_of : ∀ {vs : List V} {its : List Value} {ds : List D}, Vals vs its → RpAll K F vs ds → PySem.W.EachIs (fun v d => ∃ w, RelV w v ∧ Rp K F w d) its ds
  | _, _, _, .nil, .nil => .nil
  | _, _, _, .cons r t, .cons h q => .cons ⟨_, r, h⟩ (each_of t q)
theorem of_each : ∀ {its : List Value} {ds : List D}, PySem.W.EachIs (fun v d => ∃ w, RelV w v ∧ Rp K F w d) its ds → ∃ ws, Vals ws its ∧ RpAll K F ws ds
  | _, _, .nil => ⟨[], .nil, .nil⟩
  | _, _, .cons ⟨w, r, h⟩ t => by
    obtain ⟨ws, h1, h2⟩ := of_each t
    exact ⟨w :: ws, .cons r h1, .cons h h2⟩
theorem depth_mem : ∀ {ds : List D} {d : D}, d ∈ ds → d.depth ≤ PyData.depthAll ds
  | e :: r, d, h => by
    simp only [PyData.depthAll]
    rcases List.mem_cons.mp h with rfl | h
    · exact Nat.le_max_left _ _
    · exact Nat.le_trans (depth_mem h) (Nat.le_max_right _ _)
theorem alike_of {ds : List D} (h : allAlike ds = true) : PySem.W.AllAlike ds := fun d hd d' hd' => by
  unfold allAlike at h
  exact List.all_eq_true.mp (List.all_eq_true.mp h d hd) d' hd'
theorem sortable_of {ds : List D} (h : sortable ds = true) : PySem.W.Sortable ds := by
  unfold sortable at h
  rw [Bool.or_eq_true] at h
  rcases h with h | h
  · refine .inl fun d hd => ?_
    have q := List.all_eq_true.mp h d hd
    cases d with
    | tuple l =>
      cases l with
      | nil => cases q
      | cons x r => exact ⟨x, r, rfl⟩
    | _ => cases q
  · refine .inr fun d hd => ?_
    have q := List.all_eq_true.mp h d hd
    refine ⟨fun e => ?_, fun l e => ?_⟩
    · subst e; cases q
    · subst e; cases q
theorem sort_len (ds : List D) : (sortD ds).length = ds.length := by
  unfold sortD
  exact List.length_mergeSort _
variable {X : Cx}
theorem one_of {vs : List V} {ds : List D} {d : D} (h : RpBs K F H vs (d :: ds)) (e : ds = []) : ∃ v, vs = [v] ∧ RpB K F H v d := by
  subst e
  cases h with
  | cons h t => cases t; exact ⟨_, rfl, h⟩
theorem two_of {vs : List V} {d d' : D} (h : RpBs K F H vs [d, d']) : ∃ v w, vs = [v, w] ∧ RpB K F H v d ∧ RpB K F H w d' := by
  cases h with
  | cons h t =>
    cases t with
    | cons h' t => cases t; exact ⟨_, _, rfl, h, h'⟩
theorem reads_one {I : Inv X pins σ H s} : True := trivial
end
section
variable {X : Cx}
theorem bl_len : CallR X (.builtin "len") (rBl X.K .len) := by
  intro pins s σ H xs us Q I r ⟨F, ds, hs, hx, h⟩
  have h : AnsG X.K F H (dBlt .len ds) Q NoE := h
  match ds, hx, h with
  | [.str z], hx, h =>
    obtain ⟨v, rfl, hv⟩ := one_of hx rfl
    cases hv.str
    simp only [dBlt] at h
    split at h
    · rename_i hz
      exact call_len_str pins s σ H _ us Q I r ⟨z, rfl, by rw [sz_eq]; exact of_decide_eq_true hz, h.here hs (fun _ e => nomatch e) (.int _)⟩
    · exact h.elim
  | [.list xs], hx, h =>
    obtain ⟨v, rfl, hv⟩ := one_of hx rfl
    obtain ⟨p, vs, rfl, h1, r1⟩ := hv.list hs
    exact call_len_seq pins s σ H _ us Q I r ⟨p, vs, rfl, .inl h1.sq, by rw [r1.length]; exact h.here hs (fun _ e => nomatch e) (.int _)⟩
  | [.tuple xs], hx, h =>
    obtain ⟨v, rfl, hv⟩ := one_of hx rfl
    obtain ⟨p, vs, rfl, h1, r1⟩ := hv.tuple hs
    exact call_len_seq pins s σ H _ us Q I r ⟨p, vs, rfl, .inr h1, by rw [r1.length]; exact h.here hs (fun _ e => nomatch e) (.int _)⟩
theorem bl_all (hc : X.calm = true) : CallR X (.builtin "all") (rBl X.K .all) := by
  intro pins s σ H xs us Q I r ⟨F, ds, hs, hx, h⟩
  have h : AnsG X.K F H (dBlt .all ds) Q NoE := h
  match ds, hx, h with
  | [.list xs], hx, h =>
    obtain ⟨v, rfl, hv⟩ := one_of hx rfl
    obtain ⟨p, vs, rfl, h1, r1⟩ := hv.list hs
    simp only [dBlt] at h
    cases e : boolsD xs with
    | ok bs =>
      rw [e] at h
      have := bools_of r1 e
      subst this
      exact cr_all hc pins s σ H _ us Q I r ⟨p, bs, rfl, h1.sq, AnsG.here hs h (fun _ e => nomatch e) (.bl _)⟩
    | ex c => rw [e] at h; exact absurd e (boolsD_ex _ _)
    | no => rw [e] at h; exact h.elim
theorem bl_any (hc : X.calm = true) : CallR X (.builtin "any") (rBl X.K .any) := by
  intro pins s σ H xs us Q I r ⟨F, ds, hs, hx, h⟩
  have h : AnsG X.K F H (dBlt .any ds) Q NoE := h
  match ds, hx, h with
  | [.list xs], hx, h =>
    obtain ⟨v, rfl, hv⟩ := one_of hx rfl
    obtain ⟨p, vs, rfl, h1, r1⟩ := hv.list hs
    simp only [dBlt] at h
    cases e : boolsD xs with
    | ok bs =>
      rw [e] at h
      have := bools_of r1 e
      subst this
      exact cr_any hc pins s σ H _ us Q I r ⟨p, bs, rfl, h1.sq, AnsG.here hs h (fun _ e => nomatch e) (.bl _)⟩
    | ex c => rw [e] at h; exact absurd e (boolsD_ex _ _)
    | no => rw [e] at h; exact h.elim
theorem bl_sum (hc : X.calm = true) : CallR X (.builtin "sum") (rBl X.K .sum) := by
  intro pins s σ H xs us Q I r ⟨F, ds, hs, hx, h⟩
  have h : AnsG X.K F H (dBlt .sum ds) Q NoE := h
  match ds, hx, h with
  | [.list xs], hx, h =>
    obtain ⟨v, rfl, hv⟩ := one_of hx rfl
    obtain ⟨p, vs, rfl, h1, r1⟩ := hv.list hs
    simp only [dBlt] at h
    cases e : intsD xs with
    | ok bs =>
      rw [e] at h
      have := ints_of r1 e
      subst this
      exact cr_sum hc pins s σ H _ us Q I r ⟨p, bs, rfl, h1.sq, AnsG.here hs h (fun _ e => nomatch e) (.int _)⟩
    | ex c => rw [e] at h; exact absurd e (intsD_ex _ _)
    | no => rw [e] at h; exact h.elim
theorem bl_list : CallR X (.type "list") (rBl X.K .list) := by
  intro pins s σ H xs us Q I r ⟨F, ds, hs, hx, h⟩
  have h : AnsG X.K F H (dBlt .list ds) Q NoE := h
  match ds, hx, h with
  | [.list xs], hx, h =>
    obtain ⟨v, rfl, hv⟩ := one_of hx rfl
    obtain ⟨p, vs, rfl, h1, r1⟩ := hv.list hs
    exact call_list_of pins s σ H _ us Q I r ⟨p, vs, rfl, .inl h1.sq, fun l hl => AnsG.new hs h hl r1⟩
  | [.tuple xs], hx, h =>
    obtain ⟨v, rfl, hv⟩ := one_of hx rfl
    obtain ⟨p, vs, rfl, h1, r1⟩ := hv.tuple hs
    exact call_list_of pins s σ H _ us Q I r ⟨p, vs, rfl, .inr h1, fun l hl => AnsG.new hs h hl r1⟩
theorem vals_signs {x : Str} {its : List Value} (h : ItemsOf (SignAt x) its.toArray x.cps.size) : Vals (x.cps.toList.map fun c => V.str ⟨#[c]⟩) its := by
  obtain ⟨h1, h2⟩ := h
  have hl : its.length = x.cps.toList.length := by simpa using h1
  have h3 : ∀ (j : Nat) (v : Value), its[j]? = some v → ∃ c u, x.cps.toList[j]? = some c ∧ v = .str ⟨#[c]⟩ u := fun j v e => by
    obtain ⟨c, u, e1, e2⟩ := h2 j v (by simpa using e)
    exact ⟨c, u, by simpa using e1, e2⟩
  revert hl h3
  generalize x.cps.toList = cs
  clear h1 h2
  intro hl h3
  induction cs generalizing its with
  | nil =>
    cases its with
    | nil => exact .nil
    | cons u us => simp at hl
  | cons c cs ih =>
    cases its with
    | nil => simp at hl
    | cons v us =>
      obtain ⟨c', u, e1, rfl⟩ := h3 0 v rfl
      cases e1
      exact .cons ⟨u, rfl⟩ (ih (by simpa using hl) fun j v e => h3 (j + 1) v (by simpa using e))
theorem rps_signs {K : PySem.W.Frag} {F : Hp} : ∀ cs : List Nat, RpAll K F (cs.map fun c => V.str ⟨#[c]⟩) (cs.map fun c => PyData.str ⟨#[c]⟩)
  | [] => .nil
  | c :: cs => .cons (.str _) (rps_signs cs)
theorem bl_tuple (hc : X.calm = true) : CallR X (.type "tuple") (rBl X.K .tuple) := by
  intro pins s σ H xs us Q I r ⟨F, ds, hs, hx, h⟩
  have h : AnsG X.K F H (dBlt .tuple ds) Q NoE := h
  match ds, hx, h with
  | [.list xs], hx, h =>
    obtain ⟨v, rfl, hv⟩ := one_of hx rfl
    obtain ⟨p, vs, rfl, h1, r1⟩ := hv.list hs
    exact call_tuple_of pins s σ H _ us Q I r ⟨p, vs, rfl, .inl ⟨h1.sq, fun l hl => AnsG.newT hs h hl r1⟩⟩
  | [.tuple xs], hx, h =>
    obtain ⟨v, rfl, hv⟩ := one_of hx rfl
    obtain ⟨p, vs, rfl, h1, r1⟩ := hv.tuple hs
    have fa : Rp X.K F (.ref p) (.tuple xs) := by
      rcases hv with h | ⟨_, _, _, _, e, _⟩
      · exact h
      · cases e
    exact call_tuple_of pins s σ H _ us Q I r ⟨p, vs, rfl, .inr ⟨h1, AnsG.here hs h (fun _ e => nomatch e) fa⟩⟩
  | [.str z], hx, h =>
    obtain ⟨v, rfl, hv⟩ := one_of hx rfl
    cases hv.str
    obtain ⟨u, rfl, t, rfl⟩ := vals1 r
    have hn := line63
    simp only [dBlt] at h
    by_cases hz : z.length ≤ 16777216
    · rw [if_pos (by simpa using hz)] at h
      have hz' : z.cps.size ≤ sizeLine := by
        have : z.cps.size = z.length := rfl
        rw [sz_eq]
        omega
      refine call_tuple_str (I.ok.hd hc) z t (fun h' tk acc hk hacc => ?_) hz'
      obtain ⟨its, rfl⟩ : ∃ its : List Value, acc = its.toArray := ⟨acc.toList, by simp⟩
      have rv := vals_signs hacc
      have I1 : Inv X pins σ H { s with heap := h', toks := tk } := I.kept hk
      have hl : (z.cps.toList.map fun c => V.str ⟨#[c]⟩).length ≤ sizeLine := by
        rw [List.length_map, Array.length_toList]
        exact hz'
      have I2 : Inv X pins σ (upd H h'.objs.size (.tup (z.cps.toList.map fun c => V.str ⟨#[c]⟩))) { s with heap := h'.push { cls := .type "tuple", data := .seq its.toArray }, toks := tk } :=
        I1.laid (t' := tk) (fun b o e => Heap.get?_push_of_some _ e) (Nat.le_refl _) (show ObjOk X.prog X.w _ _ _ (.tup _) from ⟨hl, its, rv, IsTup.new _ _⟩)
      exact ⟨.ref h'.objs.size, _, I2, rfl, AnsG.newT hs h (I1.hok.fresh (Nat.le_refl _)) (rps_signs _)⟩
    · rw [if_neg (by simpa using hz)] at h
      exact h.elim
theorem bl_max2 (hc : X.calm = true) : CallR X (.builtin "max") (rBl X.K .max2) := by
  intro pins s σ H xs us Q I r ⟨F, ds, hs, hx, h⟩
  have h : AnsG X.K F H (dBlt .max2 ds) Q NoE := h
  match ds, hx, h with
  | [.int i, .int j], hx, h =>
    obtain ⟨v, w, rfl, hv, hw⟩ := two_of hx
    cases hv.int; cases hw.int
    exact call_max2 hc pins s σ H _ us Q I r ⟨i, j, rfl, AnsG.here hs h (fun _ e => nomatch e) (.int _)⟩
theorem bl_min2 (hc : X.calm = true) : CallR X (.builtin "min") (rBl X.K .min2) := by
  intro pins s σ H xs us Q I r ⟨F, ds, hs, hx, h⟩
  have h : AnsG X.K F H (dBlt .min2 ds) Q NoE := h
  match ds, hx, h with
  | [.int i, .int j], hx, h =>
    obtain ⟨v, w, rfl, hv, hw⟩ := two_of hx
    cases hv.int; cases hw.int
    exact call_min2 hc pins s σ H _ us Q I r ⟨i, j, rfl, AnsG.here hs h (fun _ e => nomatch e) (.int _)⟩
theorem bl_sorted (hr : Rm X) : CallR X (.builtin "sorted") (rBl X.K .sorted) := by
  intro pins s σ H xs us Q I r ⟨F, ds, hs, hx, h⟩
  have h : AnsG X.K F H (dBlt .sorted ds) Q NoE := h
  match ds, hx, h with
  | [.list xs], hx, h =>
    obtain ⟨v, rfl, hv⟩ := one_of hx rfl
    obtain ⟨p, vs, rfl, h1, r1⟩ := hv.list hs
    simp only [dBlt] at h
    split at h
    · rename_i hz
      rw [Bool.and_eq_true, Bool.and_eq_true] at hz
      obtain ⟨⟨z1, z2⟩, z3⟩ := hz
      obtain ⟨f1, f2⟩ := fine_list z3
      obtain ⟨hsz, its, n, rv, hlen, eo⟩ := rd_list I h1
      rw [Vals.ref1 r]
      have hl : s.heap.IsList p its.toArray := ⟨_, eo, rfl, _, rfl⟩
      have er := each_of rv r1
      have em : xs.map id = xs := List.map_id _
      have eread : PySem.W.EachIs (fun v b => ∃ as, Reads s.heap v (id b) as) its xs := er.mono fun v d ⟨w, rw', rp⟩ => Dp.reads I d w v ((rp.mono hs).dp) rw'
      refine PySem.W.sorted_data (enc := id) (bs := xs) hl er eread (by rw [em]; exact alike_of z1) (by rw [em]; exact sortable_of z2) (by rw [sz_eq]; have := r1.length; rw [sz_eq] at hsz; omega) (fun b hb => ?_) fun out ho hout => ?_
      · have h1 := hr.room
        have h2 := depth_mem hb
        show X.A.units + 2 + b.depth < cLine
        omega
      · obtain ⟨ws, q1, q2⟩ := of_each hout
        obtain ⟨ep, he'⟩ := PyProof.Rows.sortedAll_at s.heap its out.toArray
        have hl2 : ws.length ≤ sizeLine := by
          rw [q2.length]
          have e2 : (xs.mergeSort (PySem.W.dataLe false id)).length = xs.length := List.length_mergeSort _
          rw [e2, ← r1.length]; exact hsz
        exact ⟨.ref _, upd H (s.heap.objs.size + 1) (.lst ws), I.laid (t' := s.toks) (fun _ _ => PyProof.Rows.sortedAll_old) (Nat.le_succ _) ⟨hl2, out, ep, q1, he'⟩, rfl, AnsG.new hs h (I.hok.fresh (Nat.le_succ _)) q2⟩
    · exact h.elim
theorem bl_min1 (hc : X.calm = true) (hr : Rm X) : CallR X (.builtin "min") (rBl X.K .min1) := by
  intro pins s σ H xs us Q I r ⟨F, ds, hs, hx, h⟩
  have h : Ans X.K F H (dBlt .min1 ds) Q NoE := h
  match ds, hx, h with
  | [.list (y :: ys)], hx, h =>
    obtain ⟨v, rfl, hv⟩ := one_of hx rfl
    obtain ⟨p, vs, rfl, h1, r1⟩ := hv.list hs
    simp only [dBlt] at h
    split at h
    · rename_i hz
      rw [Bool.and_eq_true, Bool.and_eq_true] at hz
      obtain ⟨⟨z1, z2⟩, z3⟩ := hz
      obtain ⟨f1, f2⟩ := fine_list z3
      obtain ⟨hsz, its, n, rv, hlen, eo⟩ := rd_list I h1
      rw [Vals.ref1 r]
      have hl : s.heap.IsList p its.toArray := ⟨_, eo, rfl, _, rfl⟩
      obtain ⟨as, rall⟩ := Dp.readsAll I (y :: ys) vs its ((r1.mono hs).dp) rv
      have hal := alike_of z1
      have hnn : ∀ x ∈ (y :: ys), x ≠ PyData.none := by
        intro x hx
        rcases sortable_of z2 with q | q
        · obtain ⟨a, b, e⟩ := q x hx
          rw [e]; exact fun e => nomatch e
        · exact (q x hx).1
      refine PySem.W.min_list_data (vs := its.toArray) (x := y) (xs := ys) (I.ok.hd hc) hl rall ⟨fun x hx y hy => hal x hx y hy, hnn⟩ ?_ fun i v h' tk bs hi hrd hk => ?_
      · have h1 := hr.room
        show X.A.units + 1 + PyData.depthAll (y :: ys) < cLine
        omega
      · have hi' : its[i]? = some v := by simpa using hi
        have hlt : i < its.length := (List.getElem?_eq_some_iff.mp hi').1
        have hv2 : vs[i]? = some (vs[i]'(by omega)) := List.getElem?_eq_getElem _
        obtain ⟨d, e1, rp⟩ := r1.getV hv2
        obtain ⟨u', hu', ru'⟩ := rv.get hv2
        rw [hi'] at hu'
        cases hu'
        have hdm : d ∈ (y :: ys) := List.mem_of_getElem? e1
        obtain ⟨cs, rd⟩ := Dp.reads I d _ v ((rp.mono hs).dp) ru'
        have rd' := PySem.W.reads_keeps hk rd
        have ed : d = PySem.W.minD y ys := SeqAt.plain_unique d _ v _ _ (PySem.W.plain_mem f1 hdm) rd' hrd
        exact ⟨_, H, I.kept hk, ru', Ans.here hs h (ed ▸ rp)⟩
    · exact h.elim
theorem bld {b : Blt} (hc : X.calm = true) (hr : Rm X) : CallR X (bltV b) (rBl X.K b) := by
  cases b with
  | len => exact bl_len
  | all => exact bl_all hc
  | any => exact bl_any hc
  | sum => exact bl_sum hc
  | list => exact bl_list
  | tuple => exact bl_tuple hc
  | sorted => exact bl_sorted hr
  | min1 => exact bl_min1 hc hr
  | max2 => exact bl_max2 hc
  | min2 => exact bl_min2 hc
/-! ### isinstance -/
theorem isiTy {u : Value} {d : D} {as : List Addr} {s : Shared} {A : Around} {prog : Program} {w : World} {E : Value → Shared → Prop} {Q : Value → Shared → Prop} (t : Ty) (r : Reads s.heap u d as) (h : ∀ tk, Q (.bool (isTy t d)) { s with toks := tk }) :
    wpAny (model prog w) A (call (.builtin "isinstance") [u, .type (match t with
      | .int => "int"
      | .bool => "bool"
      | .str => "str"
      | .tuple => "tuple"
      | .list => "list")]) Q E s := by
  cases t with
  | int => exact PySem.W.isinstance_int_data r fun tk _ => h tk
  | bool => exact PySem.W.isinstance_bool_data r fun tk _ => h tk
  | str => exact PySem.W.isinstance_str_data r fun tk _ => h tk
  | tuple => exact PySem.W.isinstance_tuple_data r fun tk _ => h tk
  | list => exact PySem.W.isinstance_list_data r fun tk _ => h tk
end
end Fp

set_option Elab.async false
set_option linter.all false
set_option maxRecDepth 100000
set_option maxHeartbeats 1000000
/-! is None, is True; list.index, list.count; [::-1]. -/
namespace Fp
open PySem PySem.Spec PyProof.Rows L2
section
variable {prog : Program} {w : World} {A : Around} {E : Value → Shared → Prop} {s : Shared}
theorem adjust_rev (n : Nat) : Builtin.Slice.sliceAdjust none none (-1) (n : Int) = ((n : Int) - 1, -1) := by
  simp [Builtin.Slice.sliceAdjust]
theorem places_rev (n : Nat) : Builtin.Slice.slicePlaces ((n : Int) - 1) (-1) (-1) = n := by
  unfold Builtin.Slice.slicePlaces
  have h1 : ¬ ((-1 : Int) > 0) := by decide
  rw [if_neg h1]
  by_cases h : (n : Int) - 1 > -1
  · rw [if_pos h]
    have e : ((n : Int) - 1 - -1 - 1) / (- -1) = (n : Int) - 1 := by
      rw [show (- -1 : Int) = 1 by decide, Int.ediv_one]
      omega
    rw [e]
    omega
  · rw [if_neg h]
    omega
theorem sliceApplied_rev {sl : Addr} {vl vu vs : Value} {n : Nat} {Q : Int × Int × Nat → Shared → Prop} (hs : s.heap.IsSliceOf sl vl vu vs) (pl : IsPart vl none) (pu : IsPart vu none) (ps : IsPart vs (some (-1)))
    (h : Q ((n : Int) - 1, -1, n) s) : wpAny (model prog w) A (Builtin.Slice.sliceApplied (.ref sl) (pure (n : Int))) Q E s := by
  obtain ⟨os, hos, hcs, hds⟩ := id hs
  unfold Builtin.Slice.sliceApplied Builtin.Slice.sliceFields
  refine wpAny_bind (wpAny_bind (wpAny_field hos hds (x := vl) rfl (wpAny_bind (wpAny_field hos hds (x := vu) rfl (wpAny_bind (wpAny_field hos hds (x := vs) rfl (wpAny_pure ?_)))))))
  refine wpAny_bind (HT.slicePart_ ps ?_)
  show wpAny _ _ (if ((-1 : Int) == 0) = true then _ else _) _ _ s
  rw [if_neg (by decide)]
  refine wpAny_bind (HT.slicePart_ pl (wpAny_bind (HT.slicePart_ pu (wpAny_bind (wpAny_pure ?_)))))
  show wpAny _ _ (match Builtin.Slice.sliceAdjust none none (-1) (n : Int) with | (lo, hi) => pure (lo, (-1 : Int), Builtin.Slice.slicePlaces lo hi (-1))) _ _ s
  rw [adjust_rev n]
  show wpAny _ _ (pure ((n : Int) - 1, (-1 : Int), Builtin.Slice.slicePlaces ((n : Int) - 1) (-1) (-1))) _ _ s
  rw [places_rev]
  exact wpAny_pure h
theorem fmc {α β : Type} {f g : α → Option β} : ∀ (l : List α), (∀ a ∈ l, f a = g a) → l.filterMap f = l.filterMap g
  | [], _ => rfl
  | a :: l, h => by
    rw [List.filterMap_cons, List.filterMap_cons, h a List.mem_cons_self, fmc l fun b hb => h b (List.mem_cons_of_mem _ hb)]
theorem pick_rev (xs : Array Value) : ((List.range xs.size).filterMap fun (m : Nat) => xs[(((xs.size : Int) - 1) + (m : Int) * -1).toNat]?).toArray = xs.toList.reverse.toArray := by
  have e : (List.range xs.size).filterMap (fun (m : Nat) => xs[(((xs.size : Int) - 1) + (m : Int) * -1).toNat]?) = xs.toList.reverse := by
    apply List.ext_getElem?
    intro i
    have e1 : (List.range xs.size).filterMap (fun (m : Nat) => xs[(((xs.size : Int) - 1) + (m : Int) * -1).toNat]?) = (List.range xs.size).filterMap (fun (m : Nat) => some (xs.toList.reverse.getD m .none)) := by
      refine fmc _ fun m hm => ?_
      have hm := List.mem_range.mp hm
      have e2 : (((xs.size : Int) - 1) + (m : Int) * -1).toNat = xs.size - 1 - m := by omega
      rw [e2, ← Array.getElem?_toList, List.getD_eq_getElem?_getD, List.getElem?_reverse (by simpa using hm), Array.length_toList]
      rw [List.getElem?_eq_getElem (by rw [Array.length_toList]; omega)]
      rfl
    rw [e1]
    by_cases hi : i < xs.size
    · rw [List.filterMap_eq_map', List.getElem?_map, List.getElem?_range hi]
      simp only [Option.map_some, List.getD_eq_getElem?_getD]
      rw [List.getElem?_eq_getElem (by simpa using hi)]
      rfl
    · rw [List.getElem?_eq_none (by rw [List.filterMap_eq_map', List.length_map, List.length_range]; omega), List.getElem?_eq_none (by simp; omega)]
  rw [e]
theorem getItem_tuple_rev {t sl : Addr} {items : Array Value} {vl vu vs : Value} {Q : Value → Shared → Prop} (ht : IsTup s.heap t items) (hs : s.heap.IsSliceOf sl vl vu vs) (pl : IsPart vl none) (pu : IsPart vu none) (ps : IsPart vs (some (-1)))
    (h : Q (.ref s.heap.objs.size) { s with heap := s.heap.push { cls := .type "tuple", data := .seq items.toList.reverse.toArray } })
    (hsz : items.size ≤ sizeLine) : wpAny (model prog w) A (getItem (.ref t) (.ref sl)) Q E s := by
  have htake : sizeOk (.seq items.toList.reverse.toArray) := by
    show items.toList.reverse.toArray.size ≤ sizeLine
    rw [List.size_toArray, List.length_reverse, Array.length_toList]
    omega
  obtain ⟨os, hos, hcs, hds⟩ := id hs
  have hTs : s.TypeIs (.ref sl) "slice" := ⟨os, hos, hcs⟩
  unfold getItem
  try with_reducible refine wpAny_holding ?_
  first | refine wpAny_bind (wpAny_pure ?_) | skip
  refine wpAny_bind (wpAny_sequenceKey ht.typeIs (by decide) ?_)
  refine wpAny_bind (wpAny_callSpecial?_slot (name := Str.ofString "__getitem__") ht.typeIs PyProof.Rows.slot_tuple_getitem
    (wpAny_call_entry PyProof.Rows.slot_tuple_getitem ht.typeIs entry_tuple_getitem ?_ (args_tuple_getitem _ _)))
  show wpAny _ _ (Builtin.Tuple.tupleItemsOf (.ref t) >>= _) _ _ s
  refine wpAny_bind (tupleItemsOf_ ht ?_)
  refine wpAny_bind (wpAny_typeOf hTs ?_)
  rw [if_pos (by decide)]
  refine wpAny_bind (sliceApplied_rev hs pl pu ps ?_)
  have hno : ¬ ((((items.size : Int) - 1) == 0 && (-1 : Int) == 1 && items.size == items.size) = true) := by
    intro q
    rw [Bool.and_eq_true, Bool.and_eq_true] at q
    exact absurd q.1.2 (by decide)
  show wpAny _ _ (if (((items.size : Int) - 1) == 0 && (-1 : Int) == 1 && items.size == items.size) = true then _ else _) _ _ s
  rw [if_neg hno, pick_rev]
  first
    | exact wpAny_bind (m := Builtin.Tuple.tupleExact _) (wpAny_newObj_type (wpAny_pure ⟨_, rfl, wpAny_pure h⟩) htake)
    | exact wpAny_bind (m := Builtin.Tuple.tupleExact _) (wpAny_newObj_type (wpAny_bind (wpAny_pure (wpAny_pure ⟨_, rfl, wpAny_pure h⟩))) htake)
    | exact wpAny_bind (wpAny_bind (m := Builtin.Tuple.tupleExact _) (wpAny_newObj_type (wpAny_pure (wpAny_pure ⟨_, rfl, wpAny_pure h⟩)) htake))
    | exact wpAny_bind (wpAny_bind (m := Builtin.Tuple.tupleExact _) (wpAny_newObj_type (wpAny_pure ⟨_, rfl, wpAny_pure h⟩) htake))
end
section
variable {X : Cx}
/-! ### [::-1] -/
def tRevD (K : PySem.W.Frag) (te : TE) : TE := fun σ H Q => te σ H fun x H1 => ∃ F a, Same F H1 ∧ RpB K F H1 x a ∧ AnsG K F H1 (dRev a) Q NoE
theorem pe_revD {e : Expr} {te : TE} {k : Nat} {k1 : Nat} {p1 p2 p3 pos : Pos} (he : PE X e te) : PE X (.Subscript e (.Slice none none (some (.UnaryOp .USub (.Constant (.int 1) k p1) p2)) p3) pos) (tRevD X.K te) := by
  refine ⟨fun pins s σ H Q I h => ?_⟩
  refine Subscript_ (thn (he.run pins s σ H _ I h) fun v s1 ⟨x, H1, I1, r1, F, d, hs, ha, q⟩ => ?_)
  have hst : PO X (some (.UnaryOp .USub (.Constant (.int 1) k p1) p2)) (tPart (tUn (rU fun i => .int (-i)) (tC (.int 1)))) := po_some (pe_un un_neg pe_int)
  refine wpAny_Slice (thn (po_none.run pins s1 σ H1 (fun o H2 => o = none ∧ H2 = H1) I1 ⟨rfl, rfl⟩) fun vl s2 ⟨l, H2, I2, pl, el, e2⟩ => ?_)
  subst el e2
  refine thn (po_none.run pins s2 σ H2 (fun o H3 => o = none ∧ H3 = H2) I2 ⟨rfl, rfl⟩) fun vu s3 ⟨u, H3, I3, pu, eu, e3⟩ => ?_
  subst eu e3
  refine thn (hst.run pins s3 σ H3 (fun o H4 => o = some (-1) ∧ H4 = H3) I3 ⟨1, rfl, -1, rfl, rfl, rfl⟩) fun vs s4 ⟨o, H4, I4, ps, eo, e4⟩ => ?_
  subst eo e4
  have I5 : Inv X pins σ H4 { s4 with heap := s4.heap.push { cls := .type "slice", data := .fields #[vl, vu, vs] } } := I4.kept (t' := s4.toks) fun b ob q => Heap.get?_push_of_some _ q
  cases d with
  | list ds =>
    obtain ⟨a, xs, rfl, hx, rp⟩ := ha.list hs
    cases r1
    obtain ⟨its, r, ht, hz⟩ := I5.list hx.sq
    have hlen := r.length
    show wpAny (model X.prog X.w) X.A (subscriptTail e (.Slice none none (some (.UnaryOp .USub (.Constant (.int 1) k p1) p2)) p3) (.ref a) (.ref s4.heap.objs.size)) (EP X pins σ Q) X.xe { s4 with heap := s4.heap.push { cls := .type "slice", data := .fields #[vl, vu, vs] } }
    refine tail_any (ops := [.ref a, .ref s4.heap.objs.size]) ht.isList.typeIs (PySem.slot_list_getitem.lookup) ?_ (by with_unfolding_all rfl)
    refine wpAny_getItem_list_slice ht.isList (Heap.IsSliceOf.new _ vl vu vs) pl pu ps (by decide) ?_ (by rw [List.size_toArray]; omega)
    rw [PySem.W.krv_pick]
    refine ⟨.ref _, _, I5.laid (t' := s4.toks) (o := .lst xs.reverse) (fun b ob q => Heap.get?_push_of_some _ q) (Nat.le_refl _) ?_, rfl, AnsG.new hs q (I5.hok.fresh (Nat.le_refl _)) rp.reverse⟩
    exact ⟨by rw [List.length_reverse]; exact hz, _, 0, r.reverse, Heap.get?_push_size _ rfl⟩
  | tuple ds =>
    obtain ⟨a, xs, rfl, hx, rp⟩ := ha.tuple hs
    cases r1
    obtain ⟨its, r, ht, hz⟩ := I5.tuple hx
    have hlen := r.length
    show wpAny (model X.prog X.w) X.A (subscriptTail e (.Slice none none (some (.UnaryOp .USub (.Constant (.int 1) k p1) p2)) p3) (.ref a) (.ref s4.heap.objs.size)) (EP X pins σ Q) X.xe { s4 with heap := s4.heap.push { cls := .type "slice", data := .fields #[vl, vu, vs] } }
    refine tail_any (ops := [.ref a, .ref s4.heap.objs.size]) ht.typeIs (PyProof.Rows.slot_tuple_getitem.lookup) ?_ (by with_unfolding_all rfl)
    refine getItem_tuple_rev ht (Heap.IsSliceOf.new _ vl vu vs) pl pu ps ?_ (by rw [List.size_toArray]; omega)
    refine ⟨.ref _, _, I5.laid (t' := s4.toks) (o := .tup xs.reverse) (fun b ob q => Heap.get?_push_of_some _ q) (Nat.le_refl _) ?_, rfl, AnsG.newT hs q (I5.hok.fresh (Nat.le_refl _)) rp.reverse⟩
    exact ⟨by rw [List.length_reverse]; exact hz, _, r.reverse, IsTup.new _ _⟩
  | _ => exact q.elim
/-! ### is None, is True, is False -/
def kcV : Kc → V
  | .non => .non
  | .tru => .bl true
  | .fls => .bl false
def rIsK (K : PySem.W.Frag) (n : Bool) (k : Kc) : R2 := fun x y H Q => y = kcV k ∧ ∃ F a, Same F H ∧ RpB K F H x a ∧ AnsT F H ((isK k a).bind fun b => .ok (n != b)) (fun k H' => Q (.bl k) H') NoE
theorem non_of {K : PySem.W.Frag} {F H : Hp} {x : V} {a : D} (h : RpB K F H x a) : decide (x = .non) = noneD a := by
  rcases h with h | ⟨_, _, _, h1, h2, _⟩
  · cases h <;> first
      | rfl
      | (simp [noneD])
  · subst h1 h2
    simp [noneD]
theorem op_isK (n : Bool) (k : Kc) : OpR X (compareOp (if n = true then .IsNot else .Is)) (rIsK X.K n k) := by
  intro pins s σ H x y v u Q I rx ry ⟨ey, F, a, hs, ha, h⟩
  subst ey
  cases k with
  | non =>
    have q := AnsT.ok hs h
    rw [← non_of ha] at q
    cases n with
    | false => exact op_isN pins s σ H _ _ v u Q I rx ry ⟨rfl, by simpa using q⟩
    | true => exact op_notN pins s σ H _ _ v u Q I rx ry ⟨rfl, by simpa using q⟩
  | tru =>
    cases a with
    | bool b =>
      cases ha.bool
      have q := AnsT.ok hs h
      cases n with
      | false => exact op_isBl pins s σ H _ _ v u Q I rx ry ⟨b, true, rfl, rfl, by cases b <;> simpa using q⟩
      | true => exact op_notBl pins s σ H _ _ v u Q I rx ry ⟨b, true, rfl, rfl, by cases b <;> simpa using q⟩
    | _ => exact h.elim
  | fls =>
    cases a with
    | bool b =>
      cases ha.bool
      have q := AnsT.ok hs h
      cases n with
      | false => exact op_isBl pins s σ H _ _ v u Q I rx ry ⟨b, false, rfl, rfl, by cases b <;> simpa using q⟩
      | true => exact op_notBl pins s σ H _ _ v u Q I rx ry ⟨b, false, rfl, rfl, by cases b <;> simpa using q⟩
    | _ => exact h.elim
/-! ### l.index(x), l.count(x) -/
def rMet (K : PySem.W.Frag) (m : Met) : V → List V → Hp → VK → Prop := fun x xs H Q => ∃ F a ds, Same F H ∧ RpB K F H x a ∧ RpBs K F H xs ds ∧ Ans K F H (dMet m a ds) Q NoE
theorem list_of_met {m : Met} {a : D} {ds : List D} {K : PySem.W.Frag} {F H : Hp} {Q : VK} {E : Str → Hp → Prop} (h : Ans K F H (dMet m a ds) Q E) : ∃ xs y, a = .list xs ∧ ds = [y] ∧ fine (.list xs) = true ∧ fine y = true := by
  unfold dMet at h
  split at h
  · rename_i xs y
    split at h
    · rename_i hf
      rw [Bool.and_eq_true] at hf
      exact ⟨_, _, rfl, rfl, hf.1, hf.2⟩
    · exact h.elim
  · rename_i xs y
    split at h
    · rename_i hf
      rw [Bool.and_eq_true] at hf
      exact ⟨_, _, rfl, rfl, hf.1, hf.2⟩
    · exact h.elim
  · exact h.elim
theorem met_place {m : Met} {a : D} {ds : List D} {K : PySem.W.Frag} {F H : Hp} {Q : VK} {E : Str → Hp → Prop} (h : Ans K F H (dMet m a ds) Q E) (s : Same F H) : ∃ xs y, a = .list xs ∧ ds = [y] ∧ match m with
    | .index => ∃ j, PySem.SeqAt.dataPlace xs y = some j ∧ Q (.int (j : Nat)) H
    | .count => Q (.int (xs.countP fun z => PyData.eqv z y : Nat)) H := by
  obtain ⟨xs, y, rfl, rfl, f1, f2⟩ := list_of_met h
  refine ⟨xs, y, rfl, rfl, ?_⟩
  have hf : (fine (.list xs) && fine y) = true := by rw [f1, f2]; rfl
  cases m with
  | index =>
    have h : Ans K F H (if (fine (.list xs) && fine y) = true then (ofO (PySem.SeqAt.dataPlace xs y)).bind fun j => .ok (.int j) else .no) Q E := h
    rw [if_pos hf] at h
    cases e : PySem.SeqAt.dataPlace xs y with
    | none => rw [e] at h; exact h.elim
    | some j => rw [e] at h; exact ⟨j, rfl, Ans.here s h (.int _)⟩
  | count =>
    have h : Ans K F H (if (fine (.list xs) && fine y) = true then .ok (.int (xs.countP fun z => PyData.eqv z y : Nat)) else .no) Q E := h
    rw [if_pos hf] at h
    exact Ans.here s h (.int _)
theorem mt_met (hr : Rm X) (m : Met) : MtR X (match m with
    | .index => "list.index"
    | .count => "list.count") (rMet X.K m) := by
  intro pins s σ H x xs v us Q I rx rxs ⟨F, a, ds, hs, ha, hds, h⟩
  obtain ⟨ys, y, rfl, rfl, f1, f2⟩ := list_of_met h
  obtain ⟨_, _, e1, e2, q⟩ := met_place h hs
  cases e1
  cases e2
  obtain ⟨w, rfl, hw⟩ := one_of hds rfl
  obtain ⟨uy, rfl, ry⟩ := Vals.one rxs
  obtain ⟨p, vs, rfl, h1, r1⟩ := ha.list hs
  cases rx
  obtain ⟨bs, rd⟩ := Dp.reads I y w uy (hw.dp hs) ry
  obtain ⟨hsz, its, n, rv, hlen, eo⟩ := rd_list I h1
  obtain ⟨as, h4⟩ := Dp.readsAll I ys _ its ((r1.mono hs).dp) rv
  have hxs := (fine_list f1).1
  have hroom := hr.in1 (m := y.depth) (fine_list f1).2
  cases m with
  | index =>
    obtain ⟨j, hj, q⟩ := q
    obtain ⟨hjl, hit, hno⟩ := SeqAt.hit_at (vs := its.toArray) (show ReadsAll s.heap its.toArray.toList ys as from h4) hxs hj
    have : (its.toArray.size : Nat) ≤ sizeLine := by rw [List.size_toArray, ← hlen]; exact hsz
    rw [sz_eq] at this
    exact call_meets PySem.F.slot_list_index ⟨_, eo, rfl⟩ PySem.F.entry_list_index (PySem.F.args_list_index_2 _ _)
      (SeqAt.list_indexAt p its.toArray n none #[] uy (fun u => PyData.eqv (SeqAt.readOf s.heap u) y) j hjl (by omega) hit hno) ⟨eo, SeqAt.items_plain (vs := its.toArray) (show ReadsAll s.heap its.toArray.toList ys as from h4) rd hxs (fine_plain f2).1 hroom,
        ⟨.int (j : Nat), H, I.tok _, ⟨_, rfl⟩, q⟩⟩
  | count =>
    exact SeqAt.count_list_data (vs := its.toArray) ⟨_, eo, rfl, _, rfl⟩ (show ReadsAll s.heap its.toArray.toList ys as from h4) rd hxs (fine_plain f2).1 hroom ⟨.int _, H, I.tok _, ⟨_, rfl⟩, q⟩
end
end Fp

set_option Elab.async false
set_option linter.all false
set_option maxRecDepth 100000
set_option maxHeartbeats 1000000
/-! enumerate over a tuple. -/
namespace Fp
open PySem PySem.Spec PyProof.Rows L2
open Sem (wp)
open AutoSeq1 (wpAny_loadPart')
theorem meets_enumerate_newT (l : Addr) (items : Array Value) (n : Nat) (dct : Option Addr) (sl : Array (Option Value)) :
    Meets (Builtin.«enumerate.__new__» ⟨[.type "enumerate", .ref l], []⟩) (fun _ R s => s.heap.get? l = some { cls := .type "tuple", dict := dct, data := .seq items n, slots := sl } ∧
      R (.ok (.ret (.ref (s.heap.push { cls := .type "tuple_iterator", data := .fields #[.ref l, .int 0 0] }).objs.size)))
        { s with heap := (s.heap.push { cls := .type "tuple_iterator", data := .fields #[.ref l, .int 0 0] }).push { cls := .type "enumerate", data := .fields #[.none, .bool false, .ref s.heap.objs.size, rawInt 0, .none, .none] } }) :=
  .of_wp fun prog w A R s h => by
    obtain ⟨hp, g, d, tk, os⟩ := s; obtain ⟨hl, h⟩ := h
    have hsub := sub_enumerate
    have hL : Heap.IsTuple (Shared.heap ⟨hp, g, d, tk, os⟩) l items := ⟨_, hl, rfl, n, rfl⟩
    wp_walk using wpAny_loadPart' hl
    refine wpAny_stack_any fun st => wpAny_pure ?_
    split
    · rename_i c _ _ _ _ _
      cases (c == Value.type "enumerate")
      · wp_walk using wpAny_loadPart' hl, wpAny_pyIter_tuple hL
        exact ⟨_, rfl, h⟩
      · wp_walk using wpAny_loadPart' hl, wpAny_pyIter_tuple hL
        exact ⟨_, rfl, h⟩
    · wp_walk using wpAny_loadPart' hl, wpAny_pyIter_tuple hL
      exact ⟨_, rfl, h⟩
section
variable {prog : Program} {w : World} {A : Around} {E : Value → Shared → Prop} {s : Shared}
theorem call_enumerate_tuple {l : Addr} {items : Array Value} {Q : Value → Shared → Prop} (hL : s.heap.IsTuple l items)
    (h : ∀ h', IsEnum h' (s.heap.objs.size + 1) s.heap.objs.size 0 .none → h'.IsTupleIter s.heap.objs.size l 0 → h'.objs.size = s.heap.objs.size + 2 →
      (∀ b o, s.heap.get? b = some o → h'.get? b = some o) → Q (.ref (s.heap.objs.size + 1)) { s with heap := h' }) :
    wpAny (model prog w) A (call (.type "enumerate") [.ref l]) Q E s := by
  obtain ⟨⟨c, dct, dt, sl⟩, hl, hc, n, hd⟩ := hL
  replace hc : c = .type "tuple" := hc
  replace hd : dt = .seq items n := hd
  subst hc hd
  refine callType_new F.called_enumerate (by decide) (F.typeCall_enumerate_1 _) (F.newCall_enumerate_1 _) (fun obj => F.args_object_init_2 obj _) F.entry_enumerate_new
    (meets_enumerate_newT l items n dct sl) ⟨hl, ?_⟩
  have hz : (s.heap.push { cls := .type "tuple_iterator", data := .fields #[.ref l, .int 0 0] }).objs.size = s.heap.objs.size + 1 := Heap.size_push ..
  show _ ∧ _
  rw [hz]
  have he : IsEnum ((s.heap.push { cls := .type "tuple_iterator", data := .fields #[.ref l, .int 0 0] }).push
      { cls := .type "enumerate", data := .fields #[.none, .bool false, .ref s.heap.objs.size, rawInt 0, .none, .none] }) (s.heap.objs.size + 1) s.heap.objs.size 0 .none := by
    have := Heap.get?_push_size (s.heap.push { cls := .type "tuple_iterator", data := .fields #[.ref l, .int 0 0] })
      (o := { cls := .type "enumerate", data := .fields #[.none, .bool false, .ref s.heap.objs.size, rawInt 0, .none, .none] }) rfl
    rw [hz] at this; exact this
  refine ⟨⟨_, he, rfl⟩, h _ he ⟨_, Heap.get?_push_of_some _ (Heap.get?_push_size _ rfl), rfl, rfl⟩ (by rw [Heap.size_push, hz]) fun b o x => Heap.get?_push_of_some _ (Heap.get?_push_of_some _ x)⟩
end
/-- the tuple at a, each item in a new pair -/
def IteT (K : PySem.W.Frag) (a : Addr) : L2.It :=
  ⟨fun i H => ∃ (xs : List V) (x : V), SqT K H a xs ∧ xs[i]? = some x, fun i H v H' => ∃ T x, v = .ref T ∧ H T = none ∧ H' = upd H T (.tup [.int (i : Nat), x]) ∧ ∀ xs, SqT K H a xs → xs[i]? = some x, fun i H => ∃ xs : List V, SqT K H a xs ∧ xs.length ≤ i⟩
theorem turn_enumT {P : Program} {w : World} {K : PySem.W.Frag} {elts : List Expr} {kk : Nat} {tpos : Pos} (a e it : Addr) :
    Turn P w K (.Tuple elts kk tpos) (IteT K a) [e, it] e (fun i h => (∃ old, IsEnum h e it ((i : Nat) : Int) old) ∧ h.IsTupleIter it a i ∧ e ≠ it ∧ e ≠ a ∧ a ≠ it) where
  mem := by simp
  obj := fun i h st b hb => by
    obtain ⟨⟨old, he⟩, ⟨o, ho, hc, hd⟩, _⟩ := st
    have e' : b = e ∨ b = it := by simpa using hb
    rcases e' with z | z
    · rw [z]; exact ⟨_, he, fun v q => nomatch q⟩
    · rw [z]; exact ⟨o, ho, fun v q => by rw [hd] at q; cases q⟩
  keep := fun i h h' st k => let ⟨⟨old, he⟩, hi, hne⟩ := st; ⟨⟨old, k e (by simp) _ he⟩, hi.at fun o q => k it (by simp) o q, hne⟩
  item := by
    intro X hP hw hK hc i pins s σ H E I hf st hg
    subst hP hw hK
    obtain ⟨⟨old, he⟩, hit, hne, hea, hai⟩ := st
    obtain ⟨xs, x, hq, hx⟩ := hg
    obtain ⟨its, rv, p, hz⟩ := I.tuple hq
    obtain ⟨u, hu, ru⟩ := rv.get hx
    have hel : e < s.heap.objs.size := Heap.lt_size he
    have hil : it < s.heap.objs.size := by obtain ⟨_, q, _⟩ := hit; exact Heap.lt_size q
    have hh : X.A.in1.handled = none := I.ok.hd hc
    have hilt : i < its.toArray.size := by
      have := (List.getElem?_eq_some_iff.mp hu).1
      simpa using this
    refine wpAny_pyNext_enum_itemD (Draws.tuple hh it a hai its.toArray) he ⟨hit, p⟩ hilt hne (by simp [hne, hea]) fun x' h' tk hx' ho hit' hT hsz hk => ?_
    have ex : x' = u := by
      have q : its.toArray[i]? = some u := by simpa using hu
      rw [hx'] at q
      exact Option.some.inj q
    subst ex
    refine ⟨_, rfl, wpAny_letOwnedTupleGo_enum (s := { s with heap := h', toks := tk + 1 }) ho fun h'' he' sb => ?_⟩
    have hT2 : h''.get? s.heap.objs.size = some { cls := .type "tuple", data := .seq #[.int i tk, x'] } := (sb.2 _ (Nat.ne_of_gt hel)).trans hT
    have new : ObjOk X.prog X.w (upd H s.heap.objs.size (.tup [.int (i : Nat), x])) h'' s.heap.objs.size (.tup [.int (i : Nat), x]) :=
      ⟨by show 2 ≤ sizeLine; decide, [.int i tk, x'], .cons ⟨_, rfl⟩ (.cons ru .nil), ⟨_, hT2, rfl, _, rfl⟩⟩
    have I1 : L2.Inv X pins σ (upd H s.heap.objs.size (.tup [.int (i : Nat), x])) { s with heap := h'', toks := tk + 1 } :=
      I.turnedNew (ch := [e, it]) (fun b ob hb q => (sb.2 b (fun z => hb (by simp [z]))).trans (hk b ob (fun z => hb (by simp [z])) (fun z => hb (by simp [z])) q)) hf (Nat.le_refl _) new
    refine ⟨.ref s.heap.objs.size, _, I1, rfl, ⟨_, x, rfl, I.hok.fresh (Nat.le_refl _), rfl, fun ys hy => by rw [I.tuple_inj hy hq]; exact hx⟩, ⟨⟨x', ?_⟩, hit'.1.at fun o q => (sb.2 it (Ne.symm hne)).trans q, hne, hea, hai⟩, fun b hb => ?_⟩
    · have e1 : ((i + 1 : Nat) : Int) = (i : Int) + 1 := by omega
      rw [e1]; exact he'
    · have hb' : b < s.heap.objs.size := by
        have e' : b = e ∨ b = it := by simpa using hb
        rcases e' with z | z
        · rw [z]; exact hel
        · rw [z]; exact hil
      rw [upd_ne (Nat.ne_of_lt hb')]
      exact (hf b hb).1
  done := by
    intro X hP hw hK hc i pins s σ H E I hf st hg
    subst hP hw hK
    obtain ⟨⟨old, he⟩, hit, hne, hea, hai⟩ := st
    obtain ⟨xs, hq, hx⟩ := hg
    obtain ⟨its, rv, p, hz⟩ := I.tuple hq
    obtain ⟨f0, f1, f2, f3, f4, f5⟩ := hf it (by simp)
    have hl := rv.length
    have hh : X.A.in1.handled = none := I.ok.hd hc
    have hT : s.TypeIs (.ref e) "enumerate" := ⟨_, he, rfl⟩
    unfold pyNext
    refine wpAny_bind (wpAny_attempt (wpAny_callSpecial?_slot (name := Str.ofString "__next__") hT F.slot_enumerate_next
      (wpAny_call_entry F.slot_enumerate_next hT F.entry_enumerate_next ?_ (F.args_enumerate_next_1 _))))
    show wpAny _ _ (field (.ref e) 2 >>= _) _ _ _
    refine wpAny_bind (wpAny_field he rfl (x := .ref it) rfl ?_)
    refine wpAny_bind (wpAny_nextOf_tuple_end hh hit (show s.heap.IsTuple a its.toArray from p) (by simp; omega) fun h' x he' hx' => ?_)
    obtain ⟨o, ho, hc⟩ := hx'
    refine wpAny_bind (wpAny_isInstance (T := "StopIteration") (b := true) ⟨o, ho, hc⟩ isSubtype_stop ?_)
    exact wpAny_pure ⟨rfl, I.turned (t' := s.toks) (fun b o hb q => he' b o hb q) f0 f1 f3 f4 f5⟩
  self := fun A i s Q E st h => let ⟨⟨_, he⟩, _⟩ := st; wpAny_pyIter_enum he h
def iEnumA (K : PySem.W.Frag) (ta : TA) : TI := fun σ H R => ta σ H fun vs H1 => ∃ a xs, vs = [.ref a] ∧ ((SqL K H1 a xs ∧ R (Ite K a) H1) ∨ (SqT K H1 a xs ∧ R (IteT K a) H1))
theorem pi_enumA {X : Cx} {e : Expr} {ta : TA} {p pos tpos : Pos} {elts : List Expr} {kk : Nat} (hg : Gl X "enumerate") (hm : X.mg "enumerate" = none) (ha : PA X [e] ta) (hs : starEach [e] X.env = [(false, eval e X.env)] := by rfl) :
    PI X (.Tuple elts kk tpos) (.Call (.Name "enumerate" p) [e] [] pos) (iEnumA X.K ta) := by
  refine ⟨fun pins s σ H R I h => ?_⟩
  refine Call_ (ld_blt I hg hm boot_enumerate (PyProof.Rows.callWith_type1 (thn (ha.run pos pins s σ H _ I h) fun us s1 ⟨vs, H1, I1, r1, q1⟩ => ?_) hs rfl))
  obtain ⟨a, xs, ex, q1⟩ := q1
  subst ex
  cases r1 with
  | cons r rr =>
    cases rr
    cases r
    have fr : ∀ b, b ∈ [s1.heap.objs.size + 1, s1.heap.objs.size] → FpOk X pins H1 b := fun b hb => by
      have e' : b = s1.heap.objs.size + 1 ∨ b = s1.heap.objs.size := by simpa using hb
      have hle : s1.heap.objs.size ≤ b := by
        rcases e' with z | z
        · rw [z]; exact Nat.le_add_right _ _
        · rw [z]; exact Nat.le_refl _
      exact I1.fpOk hle (I1.hok.fresh hle)
    rcases q1 with ⟨hq, q⟩ | ⟨hq, q⟩
    · obtain ⟨its, rv, p', hz⟩ := I1.list hq
      refine call_enumerate_list p'.isList fun h' he hit hsz hk => wpAny_pyIter_enum he ?_
      have I2 : L2.Inv X pins σ H1 { s1 with heap := h' } := I1.kept (t' := s1.toks) hk
      exact ⟨s1.heap.objs.size + 1, [s1.heap.objs.size + 1, s1.heap.objs.size], _, _, H1, rfl, I2, turn_enum a (s1.heap.objs.size + 1) s1.heap.objs.size, ⟨⟨.none, he⟩, hit, Nat.succ_ne_self _⟩, fr, q⟩
    · obtain ⟨its, rv, p', hz⟩ := I1.tuple hq
      have hlt : a < s1.heap.objs.size := by obtain ⟨_, q, _⟩ := p'; exact Heap.lt_size q
      refine call_enumerate_tuple (show s1.heap.IsTuple a its.toArray from p') fun h' he hit hsz hk => wpAny_pyIter_enum he ?_
      have I2 : L2.Inv X pins σ H1 { s1 with heap := h' } := I1.kept (t' := s1.toks) hk
      exact ⟨s1.heap.objs.size + 1, [s1.heap.objs.size + 1, s1.heap.objs.size], _, _, H1, rfl, I2, turn_enumT a (s1.heap.objs.size + 1) s1.heap.objs.size, ⟨⟨.none, he⟩, hit, Nat.succ_ne_self _, Nat.ne_of_gt (Nat.lt_succ_of_lt hlt), Nat.ne_of_lt hlt⟩, fr, q⟩
end Fp

set_option Elab.async false
set_option linter.all false
set_option maxRecDepth 100000
set_option maxHeartbeats 1000000
/-! The readings of terms; what a text's shape says. -/
namespace Fp
open PySem PySem.Spec PyProof.Rows L2

/-! ### shapes -/
def shp : Expr → Bool
  | .BoolOp _ _ _ => true
  | .BinOp _ _ _ _ => true
  | .UnaryOp _ _ _ => true
  | .IfExp _ _ _ _ => true
  | .ListComp _ _ _ _ => true
  | .Compare _ _ _ _ => true
  | .Call _ (_ :: _) _ _ => true
  | .Constant _ _ _ => true
  | .Subscript _ _ _ => true
  | .Name _ _ => true
  | .List _ _ => true
  | .Tuple _ _ _ => true
  | _ => false
section
variable {G : Gx} {bk : Bk} {bor : Bool}
theorem chkEs_len : ∀ {es : Es} {xs : List Expr}, chkEs G bk bor es xs = true → xs.length = es.len
  | .nil, [], _ => rfl
  | .cons e r, x :: xs, h => by
    simp only [chkEs, Bool.and_eq_true] at h
    rw [List.length_cons, chkEs_len h.2]
    rfl
  | .nil, _ :: _, h => by simp [chkEs] at h
  | .cons _ _, [], h => by simp [chkEs] at h
theorem blt_pos (b : Blt) : 0 < bltN b := by cases b <;> decide
theorem chk_shp {e : E} {x : Expr} (h : chkE G bk bor e x = true) : shp x = true := by
  cases x with
  | Call f as ks pos =>
    cases as with
    | cons a as => rfl
    | nil =>
      exfalso
      cases e <;> first
        | (simp [chkE] at h; done)
        | skip
      · cases f <;> cases ks <;> simp only [chkE, Bool.and_eq_true, decide_eq_true_eq] at h <;> first
          | (cases h; done)
          | (have := chkEs_len h.2; have h2 := h.1.2; simp at this; omega)
      · cases f <;> cases ks <;> simp only [chkE, Bool.and_eq_true, decide_eq_true_eq] at h <;> first
          | (cases h; done)
          | (rename_i b _ _ _; have := chkEs_len h.2; have h2 := h.1.2; have h3 := blt_pos b; simp at this; omega)
      · cases f <;> cases ks <;> simp only [chkE, Bool.and_eq_true, decide_eq_true_eq] at h <;> first
          | (cases h; done)
          | (have := chkEs_len h.2; have h2 := h.1.1.2; simp at this; omega)
  | _ => first
    | rfl
    | (exfalso; cases e <;> simp [chkE] at h)
end
section
variable {x : Expr} {env : PySem.Env}
theorem shp_star (h : shp x = true) (es : List Expr) : starEach (x :: es) env = (false, eval x env) :: starEach es env := by
  cases x <;> first
    | rfl
    | (simp [shp] at h)
theorem shp_base (h : shp x = true) (n : Str) : attributeBase x n env (eval x env) = eval x env := by
  cases x <;> first
    | rfl
    | (simp [shp] at h; done)
    | skip
  rename_i f as ks pos
  cases as with
  | nil => simp [shp] at h
  | cons a as => cases f <;> rfl
theorem shp_fold (h : shp x = true) (v : Value) : foldedSetIterable x env v = pure v := by
  cases x <;> first
    | rfl
    | (simp [shp] at h)
theorem shp_mark (h : shp x = true) (o : CmpOp) : behindInMarks o x = false := by
  cases x <;> first
    | rfl
    | (simp [shp] at h)
theorem shp_ix (h : shp x = true) : PlainIx x := by
  intro o i
  cases x <;> first
    | rfl
    | (simp [shp] at h)
theorem starOk : ∀ {xs : List Expr}, (∀ x ∈ xs, shp x = true) → (starEach xs env).all (fun p => !p.1) = true
  | [], _ => rfl
  | x :: xs, h => by
    rw [shp_star (h x List.mem_cons_self), List.all_cons, starOk fun y hy => h y (List.mem_cons_of_mem _ hy)]
    rfl
end
theorem chkEs_shp {G : Gx} {bk : Bk} {bor : Bool} : ∀ {es : Es} {xs : List Expr}, chkEs G bk bor es xs = true → ∀ x ∈ xs, shp x = true
  | .nil, [], _, _, h => by cases h
  | .cons e r, x :: xs, h, y, hy => by
    simp only [chkEs, Bool.and_eq_true] at h
    rcases List.mem_cons.mp hy with rfl | hy
    · exact chk_shp h.1
    · exact chkEs_shp h.2 y hy
  | .nil, _ :: _, h, _, _ => by simp [chkEs] at h
  | .cons _ _, [], h, _, _ => by simp [chkEs] at h
theorem backTo_any {p : Pos} : ∀ {l : List (Bool × Sem Value)}, l.all (fun q => !q.1) = true → (backTo p l).any (·.1) = false
  | [], _ => rfl
  | a :: l, h => by
    rw [List.all_cons, Bool.and_eq_true] at h
    have : (backTo p (a :: l)).any (·.1) = (a.1 || (backTo p l).any (·.1)) := rfl
    rw [this, backTo_any h.2]
    simpa using h.1
end Fp

set_option Elab.async false
set_option linter.all false
set_option maxRecDepth 100000
set_option maxHeartbeats 1000000
/-! The readings of terms. -/
namespace Fp
open PySem PySem.Spec PyProof.Rows L2
abbrev WD := Str → L2.St → Hp → Prop
/-- an answer, whatever is asked of it -/
def AnsW {α : Type} (F H : Hp) (x : R α) (S : α → Hp → Hp → Prop) (Ex : Str → Hp → Prop) : Prop := match x with
  | .ok d => ∀ F' H', Ext F H F' H' → S d F' H'
  | .ex c => ∀ F' H', Ext F H F' H' → Ex c H'
  | .no => False
section
variable {α β : Type} {F H F1 H1 : Hp} {S : α → Hp → Hp → Prop} {Ex : Str → Hp → Prop}
theorem AnsW.ext {x : R α} (h : AnsW F H x S Ex) (e : Ext F H F1 H1) : AnsW F1 H1 x S Ex := by
  cases x with
  | no => exact h
  | ex c => exact fun F' H' e' => h F' H' (e.trans e')
  | ok d => exact fun F' H' e' => h F' H' (e.trans e')
theorem AnsW.bind {x : R β} {f : β → R α} {T : β → Hp → Hp → Prop} (h : AnsW F H (x.bind f) S Ex) (k : ∀ a F' H', x = .ok a → Ext F H F' H' → AnsW F' H' (f a) S Ex → T a F' H') : AnsW F H x T Ex := by
  cases x with
  | no => exact h
  | ex c => exact h
  | ok d => exact fun F' H' e => k d F' H' rfl e (AnsW.ext h e)
theorem AnsW.imp {x : R α} {S' : α → Hp → Hp → Prop} (h : AnsW F H x S Ex) (k : ∀ a F' H', Ext F H F' H' → S a F' H' → S' a F' H') : AnsW F H x S' Ex := by
  cases x with
  | no => exact h
  | ex c => exact h
  | ok d => exact fun F' H' e => k d F' H' e (h F' H' e)
theorem AnsW.here {d : α} (s : Same F H) (h : AnsW F H (.ok d) S Ex) : S d F H := h F H (.refl s)
def NoX (x : R α) : Prop := ∀ c, x ≠ .ex c
end
def Rb (K : PySem.W.Frag) (bor : Bool) (F H : Hp) (v : V) (d : D) : Prop := if bor = true then RpB K F H v d else Rp K F v d
def Rbs (K : PySem.W.Frag) (bor : Bool) (F H : Hp) (vs : List V) (ds : List D) : Prop := if bor = true then RpBs K F H vs ds else RpAll K F vs ds
/-- where what is walked stays as it is -/
def Pk (bor : Bool) (F H F' H' : Hp) : Prop := if bor = true then Ext F H F' H' else Same F F' ∧ Same F' H'
structure Wk (K : PySem.W.Frag) (J : L2.It) (ds : List D) (P : Hp → Hp → Prop) : Prop where
  go : ∀ i d F' H', ds[i]? = some d → P F' H' → J.go i H' ∧ ∀ x H3, J.yld i H' x H3 → ∃ F3, Ext F' H' F3 H3 ∧ Rp K F3 x d
  stop : ∀ F' H', P F' H' → J.stop ds.length H'
/-- a new list, not frozen; anything else frozen -/
def SG (K : PySem.W.Frag) (H : Hp) (Q : VK) (d : D) (F' H' : Hp) : Prop :=
  (∀ v, (∀ ds, d ≠ .list ds) → Rp K F' v d → Q v H') ∧ ∀ ds p vs, d = .list ds → H p = none → H' p = some (.lst vs) → F' p = none → RpAll K F' vs ds → Q (.ref p) H'
section
variable {K : PySem.W.Frag} {F H F1 H1 : Hp} {Q : VK} {Ex : Str → Hp → Prop} {bor : Bool}
theorem Rb.grow {v : V} {d : D} (e : Ext F H F1 H1) (h : Rb K bor F H v d) : Rb K bor F1 H1 v d := by
  unfold Rb at h ⊢
  split at h
  · rename_i hb; rw [if_pos hb]; exact RpB.grow e h
  · rename_i hb; rw [if_neg hb]; exact h.mono e.ff
theorem Rb.b {v : V} {d : D} (h : Rb K bor F H v d) : RpB K F H v d := by
  unfold Rb at h
  split at h
  · exact h
  · exact .inl h
theorem Rb.of {v : V} {d : D} (h : Rp K F v d) : Rb K bor F H v d := by
  unfold Rb
  split
  · exact .inl h
  · exact h
theorem Rbs.nil : Rbs K bor F H [] [] := by
  unfold Rbs
  split
  · exact .nil
  · exact .nil
theorem Rbs.cons {v : V} {vs : List V} {d : D} {ds : List D} (h : Rb K bor F H v d) (t : Rbs K bor F H vs ds) : Rbs K bor F H (v :: vs) (d :: ds) := by
  unfold Rbs Rb at *
  split at h
  · rename_i hb; rw [if_pos hb] at t ⊢; exact .cons h t
  · rename_i hb; rw [if_neg hb] at t ⊢; exact .cons h t
theorem AnsW.toA {x : R D} (h : AnsW F H x (fun d F' H' => ∀ v, Rp K F' v d → Q v H') Ex) (n : NoX x) : Ans K F H x Q NoE := by
  cases x with
  | no => exact h
  | ex c => exact absurd rfl (n c)
  | ok d => exact fun v F' H' e r => h F' H' e v r
theorem AnsW.toG {x : R D} (h : AnsW F H x (SG K H1 Q) Ex) (n : NoX x) (z : ∀ p, H p = none → H1 p = none) : AnsG K F H x Q NoE := by
  cases x with
  | no => exact h
  | ex c => exact absurd rfl (n c)
  | ok d => exact ⟨fun v F' H' nl e r => (h F' H' e).1 v nl r, fun ds p vs F' H' ed hp ho hf e r => (h F' H' e).2 ds p vs ed (z p hp) ho hf r⟩
theorem AnsW.toT {x : R Bool} {Q : Bool → Hp → Prop} (h : AnsW F H x (fun d _ H' => Q d H') Ex) (n : NoX x) : AnsT F H x Q NoE := by
  cases x with
  | no => exact h
  | ex c => exact absurd rfl (n c)
  | ok d => exact fun F' H' e => h F' H' e
/-! ### states grow -/
variable {F0 H0 : Hp} {ea : Ea} {env : Env} {σ : L2.St}
theorem SlotOk.grow {s : Slot} {x : Option V} (e : Ext F H F1 H1) (h : SlotOk K H0 F H ea s x) : SlotOk K H0 F1 H1 ea s x := by
  cases s with
  | un => trivial
  | exc c => exact h
  | val d =>
    obtain ⟨v, h1, h2⟩ := h
    exact ⟨v, h1, h2.mono e.ff⟩
  | own d =>
    obtain ⟨a, vs, ds, h1, h2, h3, h4, h5, h6⟩ := h
    exact ⟨a, vs, ds, h1, h2, e.keep h5 h3, h4, e.hh _ _ h5, h6.mono e.ff⟩
theorem Rel.grow (r : Rel K F0 H0 ea env σ F H) (e : Ext F H F1 H1) : Rel K F0 H0 ea env σ F1 H1 :=
  ⟨r.ext.trans e, r.len, fun i s x h1 h2 => (r.slot i s x h1 h2).grow e, r.apart⟩
theorem Rel.sub (r : Rel K F0 H0 ea env σ F H) : Same F H := r.ext.sub
theorem Rel.at (r : Rel K F0 H0 ea env σ F H) {i : Nat} {s : Slot} (h : env[i]? = some s) : ∃ x, σ[i]? = some x ∧ SlotOk K H0 F H ea s x := by
  have hi : i < σ.length := by rw [← r.len]; exact (List.getElem?_eq_some_iff.mp h).1
  exact ⟨σ[i], List.getElem?_eq_getElem hi, r.slot i s _ h (List.getElem?_eq_getElem hi)⟩
theorem Rel.val (r : Rel K F0 H0 ea env σ F H) {i : Nat} {d : D} (h : env[i]? = some (.val d)) : ∃ v, σ[i]? = some (some v) ∧ Rp K F v d := by
  obtain ⟨x, h1, v, h2, h3⟩ := r.at h
  subst h2
  exact ⟨v, h1, h3⟩
theorem Rel.own (r : Rel K F0 H0 ea env σ F H) {i : Nat} {d : D} (h : env[i]? = some (.own d)) : ∃ a vs ds, σ[i]? = some (some (.ref a)) ∧ d = .list ds ∧ F a = none ∧ H0 a = none ∧ H a = some (.lst vs) ∧ RpAll K F vs ds := by
  obtain ⟨x, h1, a, vs, ds, h2, h3⟩ := r.at h
  subst h2
  exact ⟨a, vs, ds, h1, h3⟩
end
/-! ### readings -/
section
variable (K : PySem.W.Frag) (F0 H0 : Hp) (ea : Ea) (W : WD)
def rdV (bor : Bool) (x : Env → R D) : TE := fun σ H Q => ∃ F env, Rel K F0 H0 ea env σ F H ∧ AnsW F H (x env) (fun d F' H' => ∀ v, Rb K bor F' H' v d → Q v H') fun c H' => W c σ H'
def rdG (x : Env → R D) : TE := fun σ H Q => ∃ F env, Rel K F0 H0 ea env σ F H ∧ AnsW F H (x env) (SG K H Q) fun c H' => W c σ H'
def rdT (x : Env → R Bool) : TT := fun σ H Q => ∃ F env, Rel K F0 H0 ea env σ F H ∧ AnsW F H (x env) (fun b _ H' => Q b H') fun c H' => W c σ H'
def rdA (bor : Bool) (x : Env → R (List D)) : TA := fun σ H Q => ∃ F env, Rel K F0 H0 ea env σ F H ∧ AnsW F H (x env) (fun ds F' H' => ∀ vs, Rbs K bor F' H' vs ds → Q vs H') fun c H' => W c σ H'
def rdO (x : Env → R (Option Int)) : TO := fun σ H Q => ∃ F env, Rel K F0 H0 ea env σ F H ∧ AnsW F H (x env) (fun o _ H' => Q o H') fun c H' => W c σ H'
def rdI (bor : Bool) (x : Env → R (List D)) : TI := fun σ H R' => ∃ F env, Rel K F0 H0 ea env σ F H ∧ AnsW F H (x env) (fun ds F' H' => ∀ J, Wk K J ds (Pk bor F' H') → R' J H') fun c H' => W c σ H'
end
theorem PEi {X : Cx} {x : Expr} {t t' : TE} (h : PE X x t) (k : ∀ σ H Q, t' σ H Q → t σ H Q) : PE X x t' := ⟨fun pins s σ H Q I q => h.run pins s σ H Q I (k σ H Q q)⟩
theorem PTi {X : Cx} {x : Expr} {t t' : TT} (h : PT X x t) (k : ∀ σ H Q, t' σ H Q → t σ H Q) : PT X x t' := ⟨fun pins s σ H Q I q => h.run pins s σ H Q I (k σ H Q q)⟩
theorem PWi {X : Cx} {x : Expr} {t t' : TT} (h : PW X x t) (k : ∀ σ H Q, t' σ H Q → t σ H Q) : PW X x t' := ⟨fun wh pins s σ H Q I q => h.run wh pins s σ H Q I (k σ H Q q)⟩
theorem PAi {X : Cx} {x : List Expr} {t t' : TA} (h : PA X x t) (k : ∀ σ H Q, t' σ H Q → t σ H Q) : PA X x t' := ⟨fun p pins s σ H Q I q => h.run p pins s σ H Q I (k σ H Q q)⟩
theorem POi {X : Cx} {x : Option Expr} {t t' : TO} (h : PO X x t) (k : ∀ σ H Q, t' σ H Q → t σ H Q) : PO X x t' := ⟨fun pins s σ H Q I q => h.run pins s σ H Q I (k σ H Q q)⟩
theorem PIi {X : Cx} {tg x : Expr} {t t' : TI} (h : PI X tg x t) (k : ∀ σ H Q, t' σ H Q → t σ H Q) : PI X tg x t' := ⟨fun pins s σ H Q I q => h.run pins s σ H Q I (k σ H Q q)⟩
theorem PTsi {X : Cx} {x : List Expr} {t t' : TT} (h : PTs X x t) (k : ∀ σ H Q, t' σ H Q → t σ H Q) : PTs X x t' := ⟨fun pins s σ H Q I q => h.run pins s σ H Q I (k σ H Q q)⟩
section
variable {X : Cx} {F0 H0 : Hp} {ea : Ea} {W : WD} {bor : Bool} {x a b c : Expr} {xa xb xc : Env → R D}
theorem pe_weak (h : PE X x (rdV X.K F0 H0 ea W false xa)) : PE X x (rdV X.K F0 H0 ea W bor xa) := PEi h fun σ H Q ⟨F, env, r, q⟩ =>
  ⟨F, env, r, q.imp fun d F' H' e k v hv => k v (Rb.of hv)⟩
theorem pe_ofG (h : PE X x (rdG X.K F0 H0 ea W xa)) : PE X x (rdV X.K F0 H0 ea W bor xa) := PEi h fun σ H Q ⟨F, env, r, q⟩ => by
  refine ⟨F, env, r, ?_⟩
  revert q
  cases xa env with
  | no => exact fun q => q
  | ex c => exact fun q => q
  | ok d =>
    refine fun q F' H' e => ⟨fun v _ hv => q F' H' e v (Rb.of hv), fun ds p vs ed hp ho hf hr => ?_⟩
    subst ed
    exact q (upd F' p (.lst vs)) H' (e.freeze hp ho hf) (.ref p) (Rb.of (.lst (LsX.of upd_same) (hr.mono (Fp.Same.upd hf))))
/-- the truth of a bool -/
theorem pt_ofV (h : PE X x (rdV X.K F0 H0 ea W false xa)) (he : ∀ whole, isTrue x X.env whole = (do let v ← whole; standAt x.pos; holding [v] (truthy v))) : PT X x (rdT X.K F0 H0 ea W fun env => (xa env).bind asB) :=
  PTi (pt_val h he) fun σ H Q ⟨F, env, r, q⟩ => ⟨F, env, r, q.bind fun d F' H' _ e k v hv => by
    have hv : Rp X.K F' v d := hv
    cases d with
    | bool b =>
      cases hv
      exact ⟨b, rfl, AnsW.here e.sub k⟩
    | _ => exact k.elim⟩
end
end Fp

set_option Elab.async false
set_option linter.all false
set_option maxRecDepth 100000
set_option maxHeartbeats 1000000
/-! Each term's step, by readings. -/
namespace Fp
open PySem PySem.Spec PyProof.Rows L2
/-! ### what is never refused -/
theorem noX_ok {α : Type} {a : α} : NoX (R.ok a) := fun _ e => nomatch e
theorem noX_no {α : Type} : NoX (R.no : R α) := fun _ e => nomatch e
theorem noX_bind {α β : Type} {x : R α} {f : α → R β} (h : NoX x) (k : ∀ a, NoX (f a)) : NoX (x.bind f) := by
  cases x with
  | ok a => exact k a
  | ex c => exact absurd rfl (h c)
  | no => exact noX_no
theorem noX_if {α : Type} {c : Prop} [Decidable c] {x y : R α} (h : NoX x) (k : NoX y) : NoX (if c then x else y) := by
  split
  · exact h
  · exact k
theorem noX_ofO {α : Type} {o : Option α} : NoX (ofO o) := by cases o <;> exact fun _ e => nomatch e
theorem noX_eq (a b : D) : NoX (dEq a b) := by unfold dEq; (first | exact noX_ok | exact noX_no | exact noX_if noX_ok noX_no | exact noX_ofO)
theorem noX_lt (a b : D) : NoX (dLt a b) := by unfold dLt; (first | exact noX_ok | exact noX_no | exact noX_if noX_ok noX_no | exact noX_ofO)
theorem noX_le (a b : D) : NoX (dLe a b) := by unfold dLe; (first | exact noX_ok | exact noX_no | exact noX_if noX_ok noX_no | exact noX_ofO)
theorem noX_in (a b : D) : NoX (dIn a b) := by
  unfold dIn
  split
  · (first | exact noX_ok | exact noX_no | exact noX_if noX_ok noX_no | exact noX_ofO)
  · (first | exact noX_ok | exact noX_no | exact noX_if noX_ok noX_no | exact noX_ofO)
  · split
    · split
      · (first | exact noX_ok | exact noX_no | exact noX_if noX_ok noX_no | exact noX_ofO)
      · (first | exact noX_ok | exact noX_no | exact noX_if noX_ok noX_no | exact noX_ofO)
    · (first | exact noX_ok | exact noX_no | exact noX_if noX_ok noX_no | exact noX_ofO)
  · (first | exact noX_ok | exact noX_no | exact noX_if noX_ok noX_no | exact noX_ofO)
theorem noX_cmp (o : Cop) (a b : D) : NoX (dCmp o a b) := by
  cases o
  · exact noX_eq _ _
  · exact noX_bind (noX_eq _ _) fun _ => noX_ok
  · exact noX_lt _ _
  · exact noX_lt _ _
  · exact noX_le _ _
  · exact noX_le _ _
  · exact noX_in _ _
  · exact noX_bind (noX_in _ _) fun _ => noX_ok
theorem noX_add (a b : D) : NoX (dAdd a b) := by unfold dAdd; split <;> (first | exact noX_ok | exact noX_no | exact noX_if noX_ok noX_no | exact noX_ofO)
theorem noX_mul (a b : D) : NoX (dMul a b) := by unfold dMul; split <;> (first | exact noX_ok | exact noX_no | exact noX_if noX_ok noX_no | exact noX_ofO)
theorem noX_bin (o : Bop) (a b : D) : NoX (dBin o a b) := by
  unfold dBin
  split
  · exact noX_add _ _
  · (first | exact noX_ok | exact noX_no | exact noX_if noX_ok noX_no | exact noX_ofO)
  · exact noX_mul _ _
  · (first | exact noX_ok | exact noX_no | exact noX_if noX_ok noX_no | exact noX_ofO)
  · (first | exact noX_ok | exact noX_no | exact noX_if noX_ok noX_no | exact noX_ofO)
  · (first | exact noX_ok | exact noX_no | exact noX_if noX_ok noX_no | exact noX_ofO)
  · (first | exact noX_ok | exact noX_no | exact noX_if noX_ok noX_no | exact noX_ofO)
theorem noX_neg (a : D) : NoX (dNeg a) := by unfold dNeg; split <;> (first | exact noX_ok | exact noX_no | exact noX_if noX_ok noX_no | exact noX_ofO)
theorem noX_idx (a b : D) : NoX (dIdx a b) := by
  unfold dIdx
  split
  · (first | exact noX_ok | exact noX_no | exact noX_if noX_ok noX_no | exact noX_ofO)
  · (first | exact noX_ok | exact noX_no | exact noX_if noX_ok noX_no | exact noX_ofO)
  · split
    · exact noX_bind noX_ofO fun _ => noX_ok
    · (first | exact noX_ok | exact noX_no | exact noX_if noX_ok noX_no | exact noX_ofO)
  · (first | exact noX_ok | exact noX_no | exact noX_if noX_ok noX_no | exact noX_ofO)
theorem noX_sli (a : D) (l h : Option Int) : NoX (dSli a l h) := by unfold dSli; split <;> (first | exact noX_ok | exact noX_no | exact noX_if noX_ok noX_no | exact noX_ofO)
theorem noX_rev (a : D) : NoX (dRev a) := by unfold dRev; split <;> (first | exact noX_ok | exact noX_no | exact noX_if noX_ok noX_no | exact noX_ofO)
theorem noX_isK (k : Kc) (a : D) : NoX (isK k a) := by unfold isK; split <;> (first | exact noX_ok | exact noX_no | exact noX_if noX_ok noX_no | exact noX_ofO)
theorem noX_asB (a : D) : NoX (asB a) := by unfold asB; split <;> (first | exact noX_ok | exact noX_no | exact noX_if noX_ok noX_no | exact noX_ofO)
theorem noX_blt (b : Blt) (ds : List D) : NoX (dBlt b ds) := by
  unfold dBlt
  split <;> first
    | (first | exact noX_ok | exact noX_no | exact noX_if noX_ok noX_no | exact noX_ofO)
    | exact noX_bind (boolsD_ex _) fun _ => noX_ok
    | exact noX_bind (intsD_ex _) fun _ => noX_ok
theorem noX_met (m : Met) (a : D) (ds : List D) : NoX (dMet m a ds) := by
  unfold dMet
  split
  · exact noX_if (noX_bind noX_ofO fun _ => noX_ok) noX_no
  · (first | exact noX_ok | exact noX_no | exact noX_if noX_ok noX_no | exact noX_ofO)
  · (first | exact noX_ok | exact noX_no | exact noX_if noX_ok noX_no | exact noX_ofO)
/-! ### the steps -/
section
variable {X : Cx} {F0 H0 : Hp} {ea : Ea} {W : WD} {bor : Bool} {x a b c : Expr} {xa xb xc : Env → R D} {pos : Pos}
theorem SG.grow {K : PySem.W.Frag} {H H1 : Hp} {Q : VK} {d : D} {F' H' : Hp} (s : Same H H1) (h : SG K H Q d F' H') : SG K H1 Q d F' H' :=
  ⟨h.1, fun ds p vs ed hp ho hf r => h.2 ds p vs ed (s.free hp) ho hf r⟩
theorem pe_bin {op : Operator} {t : D → D → R D} (o : OpR X (binaryOp op) (rOp2G X.K t)) (n : ∀ a b, NoX (t a b)) (ha : PE X a (rdV X.K F0 H0 ea W true xa)) (hb : PE X b (rdV X.K F0 H0 ea W true xb)) :
    PE X (.BinOp a op b pos) (rdG X.K F0 H0 ea W fun env => (xa env).bind fun u => (xb env).bind fun v => t u v) :=
  PEi (pe_op o ha hb) fun σ H Q ⟨F, env, r, q⟩ => ⟨F, env, r, q.bind fun u F1 H1 _ e1 q1 v1 r1 => ⟨F1, env, r.grow e1, q1.bind fun w F2 H2 _ e2 q2 v2 r2 =>
    ⟨F2, u, w, e2.sub, r1.b.grow e2, r2, q2.toG (n u w) fun p hp => e1.hh.free (e2.hh.free hp)⟩⟩⟩
theorem pe_cmpD {op : CmpOp} {t : D → D → R Bool} (o : OpR X (compareOp op) (rCmp2 X.K t)) (n : ∀ a b, NoX (t a b)) (ha : PE X a (rdV X.K F0 H0 ea W true xa)) (hb : PE X b (rdV X.K F0 H0 ea W true xb)) (hs : shp b = true) :
    PE X (.Compare a [op] [b] pos) (rdV X.K F0 H0 ea W false fun env => (xa env).bind fun u => (xb env).bind fun v => (t u v).bind fun k => .ok (.bool k)) :=
  PEi (pe_cmpR o ha hb (shp_mark hs op)) fun σ H Q ⟨F, env, r, q⟩ => ⟨F, env, r, q.bind fun u F1 H1 _ e1 q1 v1 r1 => ⟨F1, env, r.grow e1, q1.bind fun w F2 H2 _ e2 q2 v2 r2 =>
    ⟨F2, u, w, e2.sub, r1.b.grow e2, r2, (q2.bind fun k F3 H3 _ e3 q3 => AnsW.here e3.sub q3 _ (Rp.bl k) : AnsW F2 H2 (t u w) (fun k _ H3 => Q (.bl k) H3) _).toT (n u w)⟩⟩⟩
theorem pt_cmpD {op : CmpOp} {t : D → D → R Bool} (o : OpR X (compareOp op) (rCmp2 X.K t)) (n : ∀ a b, NoX (t a b)) (ha : PE X a (rdV X.K F0 H0 ea W true xa)) (hb : PE X b (rdV X.K F0 H0 ea W true xb)) (hs : shp b = true) :
    PT X (.Compare a [op] [b] pos) (rdT X.K F0 H0 ea W fun env => ((xa env).bind fun u => (xb env).bind fun v => (t u v).bind fun k => .ok (.bool k)).bind asB) :=
  PTi (pt_cmpR o ha hb (shp_mark hs op)) fun σ H Q ⟨F, env, r, q⟩ => by
    have e : (((xa env).bind fun u => (xb env).bind fun v => (t u v).bind fun k => R.ok (.bool k)).bind asB) = (xa env).bind fun u => (xb env).bind fun v => t u v := by
      cases xa env with
      | ok u =>
        simp only [R.bind_ok]
        cases xb env with
        | ok v =>
          simp only [R.bind_ok]
          cases t u v <;> rfl
        | _ => rfl
      | _ => rfl
    refine ⟨F, env, r, ?_⟩
    dsimp only at q
    rw [e] at q
    exact q.bind fun u F1 H1 _ e1 q1 v1 r1 => ⟨F1, env, r.grow e1, q1.bind fun w F2 H2 _ e2 q2 v2 r2 =>
      ⟨F2, u, w, e2.sub, r1.b.grow e2, r2, (q2.imp fun k F3 H3 e3 q3 => ⟨k, rfl, q3⟩ : AnsW F2 H2 (t u w) (fun k _ H3 => ∃ k', V.bl k = .bl k' ∧ Q k' H3) _).toT (n u w)⟩⟩
theorem pe_neg (ha : PE X a (rdV X.K F0 H0 ea W false xa)) : PE X (.UnaryOp .USub a pos) (rdV X.K F0 H0 ea W false fun env => (xa env).bind dNeg) :=
  PEi (pe_un un_neg ha) fun σ H Q ⟨F, env, r, q⟩ => ⟨F, env, r, q.bind fun u F1 H1 _ e1 q1 v1 r1 => by
    have r1 : Rp X.K F1 v1 u := r1
    cases u with
    | int i =>
      cases r1
      exact ⟨i, rfl, AnsW.here e1.sub q1 _ (.int _)⟩
    | _ => exact q1.elim⟩
theorem pe_idx (ha : PE X a (rdV X.K F0 H0 ea W true xa)) (hb : PE X b (rdV X.K F0 H0 ea W false xb)) (hs : shp b = true) :
    PE X (.Subscript a b pos) (rdV X.K F0 H0 ea W false fun env => (xa env).bind fun u => (xb env).bind fun v => dIdx u v) :=
  PEi (pe_ix ixd ha hb (shp_ix hs)) fun σ H Q ⟨F, env, r, q⟩ => ⟨F, env, r, q.bind fun u F1 H1 _ e1 q1 v1 r1 => ⟨F1, env, r.grow e1, q1.bind fun w F2 H2 _ e2 q2 v2 r2 =>
    ⟨F2, u, w, e2.sub, r1.b.grow e2, r2.b, q2.toA (noX_idx u w)⟩⟩⟩
theorem po_non : PO X none (rdO X.K F0 H0 ea W fun _ => .ok none) := POi po_none fun σ H Q ⟨F, env, r, q⟩ => AnsW.here r.sub q
theorem po_som (ha : PE X a (rdV X.K F0 H0 ea W false xa)) : PO X (some a) (rdO X.K F0 H0 ea W fun env => (xa env).bind partO) :=
  POi (po_some ha) fun σ H Q ⟨F, env, r, q⟩ => ⟨F, env, r, q.bind fun u F1 H1 _ e1 q1 v1 r1 => by
    have r1 : Rp X.K F1 v1 u := r1
    cases u with
    | int i =>
      cases r1
      exact ⟨i, rfl, AnsW.here e1.sub q1⟩
    | _ => exact q1.elim⟩
theorem pe_sli {lo hi : Option Expr} {xl xh : Env → R (Option Int)} {p2 : Pos} (ha : PE X a (rdV X.K F0 H0 ea W true xa)) (hl : PO X lo (rdO X.K F0 H0 ea W xl)) (hh : PO X hi (rdO X.K F0 H0 ea W xh)) :
    PE X (.Subscript a (.Slice lo hi none p2) pos) (rdG X.K F0 H0 ea W fun env => (xa env).bind fun u => (xl env).bind fun l => (xh env).bind fun h => dSli u l h) :=
  PEi (pe_slice sld ha hl hh) fun σ H Q ⟨F, env, r, q⟩ => ⟨F, env, r, q.bind fun u F1 H1 _ e1 q1 v1 r1 => ⟨F1, env, r.grow e1, q1.bind fun l F2 H2 _ e2 q2 => ⟨F2, env, r.grow (e1.trans e2), q2.bind fun h F3 H3 _ e3 q3 =>
    ⟨F3, u, e3.sub, (r1.b.grow e2).grow e3, q3.toG (noX_sli u l h) fun p hp => e1.hh.free (e2.hh.free (e3.hh.free hp))⟩⟩⟩⟩
theorem pe_rev {k : Nat} {p1 p2 p3 : Pos} (ha : PE X a (rdV X.K F0 H0 ea W true xa)) :
    PE X (.Subscript a (.Slice none none (some (.UnaryOp .USub (.Constant (.int 1) k p1) p2)) p3) pos) (rdG X.K F0 H0 ea W fun env => (xa env).bind dRev) :=
  PEi (pe_revD (k1 := 0) ha) fun σ H Q ⟨F, env, r, q⟩ => ⟨F, env, r, q.bind fun u F1 H1 _ e1 q1 v1 r1 =>
    ⟨F1, u, e1.sub, r1.b, q1.toG (noX_rev u) fun p hp => e1.hh.free hp⟩⟩
theorem pe_isk {n : Bool} {k : Kc} {op : CmpOp} {cn : Const} {kk : Nat} {p1 : Pos} (ho : op = if n = true then .IsNot else .Is) (hk : kcIs k cn = true) (ha : PE X a (rdV X.K F0 H0 ea W true xa)) :
    PE X (.Compare a [op] [.Constant cn kk p1] pos) (rdV X.K F0 H0 ea W false fun env => (xa env).bind fun u => (isK k u).bind fun b => .ok (.bool (n != b))) ∧
    PT X (.Compare a [op] [.Constant cn kk p1] pos) (rdT X.K F0 H0 ea W fun env => ((xa env).bind fun u => (isK k u).bind fun b => .ok (.bool (n != b))).bind asB) := by
  have hc : PE X (.Constant cn kk p1) (tC (kcV k)) := by
    cases k <;> cases cn <;> first
      | exact pe_non
      | (cases hk; done)
      | skip
    · rename_i b; cases b with
      | true => exact pe_bl
      | false => cases hk
    · rename_i b; cases b with
      | false => exact pe_bl
      | true => cases hk
  subst ho
  refine ⟨PEi (pe_cmpR (op_isK n k) ha hc rfl) fun σ H Q ⟨F, env, r, q⟩ => ⟨F, env, r, q.bind fun u F1 H1 _ e1 q1 v1 r1 => ?_⟩, PTi (pt_cmpR (op_isK n k) ha hc rfl) fun σ H Q ⟨F, env, r, q⟩ => ⟨F, env, r, ?_⟩⟩
  · refine ⟨rfl, F1, u, e1.sub, r1.b, AnsW.toT (Ex := fun c H' => W c σ H') ?_ (noX_bind (noX_isK k u) fun _ => noX_ok)⟩
    revert q1
    cases isK k u with
    | ok b => exact fun q1 F' H' e => q1 F' H' e _ (Rp.bl _)
    | ex c => exact fun q => q
    | no => exact fun q => q
  · have e : (((xa env).bind fun u => (isK k u).bind fun b => R.ok (.bool (n != b))).bind asB) = (xa env).bind fun u => (isK k u).bind fun b => .ok (n != b) := by
      cases xa env with
      | ok u =>
        simp only [R.bind_ok]
        cases isK k u <;> rfl
      | _ => rfl
    dsimp only at q
    rw [e] at q
    exact q.bind fun u F1 H1 _ e1 q1 v1 r1 => ⟨rfl, F1, u, e1.sub, r1.b, (q1.imp fun b F' H' e' q2 => ⟨b, rfl, q2⟩ : AnsW F1 H1 _ (fun b _ H' => ∃ k', V.bl b = .bl k' ∧ Q k' H') _).toT (noX_bind (noX_isK k u) fun _ => noX_ok)⟩
/-! ### and, or, not, if -/
theorem bindB {x : R D} {f : Bool → R D} : (x.bind fun u => (asB u).bind f) = (x.bind asB).bind f := by
  cases x <;> rfl
theorem pe_andD {r : List Expr} (ha : PE X a (rdV X.K F0 H0 ea W false xa)) (hb : PE X (.BoolOp .And (b :: r) pos) (rdV X.K F0 H0 ea W false xb)) :
    PE X (.BoolOp .And (a :: b :: r) pos) (rdV X.K F0 H0 ea W false fun env => (xa env).bind fun u => (asB u).bind fun k => if k = true then xb env else .ok (.bool false)) :=
  PEi (pe_and ha hb) fun σ H Q ⟨F, env, r, q⟩ => ⟨F, env, r, q.bind fun u F1 H1 _ e1 q1 v1 r1 => by
    have r1 : Rp X.K F1 v1 u := r1
    cases u with
    | bool k =>
      cases r1
      refine ⟨k, rfl, ?_⟩
      cases k with
      | true => exact ⟨F1, env, r.grow e1, q1⟩
      | false => exact AnsW.here e1.sub q1 _ (Rp.bl false)
    | _ => exact q1.elim⟩
theorem pe_orD {r : List Expr} (ha : PE X a (rdV X.K F0 H0 ea W false xa)) (hb : PE X (.BoolOp .Or (b :: r) pos) (rdV X.K F0 H0 ea W false xb)) :
    PE X (.BoolOp .Or (a :: b :: r) pos) (rdV X.K F0 H0 ea W false fun env => (xa env).bind fun u => (asB u).bind fun k => if k = true then .ok (.bool true) else xb env) :=
  PEi (pe_or ha hb) fun σ H Q ⟨F, env, r, q⟩ => ⟨F, env, r, q.bind fun u F1 H1 _ e1 q1 v1 r1 => by
    have r1 : Rp X.K F1 v1 u := r1
    cases u with
    | bool k =>
      cases r1
      refine ⟨k, rfl, ?_⟩
      cases k with
      | false => exact ⟨F1, env, r.grow e1, q1⟩
      | true => exact AnsW.here e1.sub q1 _ (Rp.bl true)
    | _ => exact q1.elim⟩
theorem pe_notD (ha : PE X a (rdV X.K F0 H0 ea W false xa)) : PE X (.UnaryOp .Not a pos) (rdV X.K F0 H0 ea W false fun env => (xa env).bind fun u => (asB u).bind fun k => .ok (.bool (!k))) :=
  PEi (pe_not ha) fun σ H Q ⟨F, env, r, q⟩ => ⟨F, env, r, q.bind fun u F1 H1 _ e1 q1 v1 r1 => by
    have r1 : Rp X.K F1 v1 u := r1
    cases u with
    | bool k =>
      cases r1
      exact ⟨k, rfl, AnsW.here e1.sub q1 _ (Rp.bl _)⟩
    | _ => exact q1.elim⟩
variable {ta tb tc : Env → R Bool}
theorem pw_andD {r : List Expr} (ha : PT X a (rdT X.K F0 H0 ea W fun env => (xa env).bind asB)) (hb : PW X (.BoolOp .And (b :: r) pos) (rdT X.K F0 H0 ea W fun env => (xb env).bind asB)) :
    PW X (.BoolOp .And (a :: b :: r) pos) (rdT X.K F0 H0 ea W fun env => ((xa env).bind fun u => (asB u).bind fun k => if k = true then xb env else .ok (.bool false)).bind asB) :=
  PWi (pw_and ha hb) fun σ H Q ⟨F, env, r, q⟩ => ⟨F, env, r, by
    have e : (((xa env).bind fun u => (asB u).bind fun k => if k = true then xb env else R.ok (.bool false)).bind asB) = ((xa env).bind asB).bind fun k => if k = true then (xb env).bind asB else .ok false := by
      rw [bindB]
      cases (xa env).bind asB with
      | ok k => cases k <;> rfl
      | _ => rfl
    dsimp only at q
    rw [e] at q
    exact q.bind fun k F1 H1 _ e1 q1 => by
      cases k with
      | true => exact ⟨F1, env, r.grow e1, q1⟩
      | false => exact AnsW.here e1.sub q1⟩
theorem pw_orD {r : List Expr} (ha : PT X a (rdT X.K F0 H0 ea W fun env => (xa env).bind asB)) (hb : PW X (.BoolOp .Or (b :: r) pos) (rdT X.K F0 H0 ea W fun env => (xb env).bind asB)) :
    PW X (.BoolOp .Or (a :: b :: r) pos) (rdT X.K F0 H0 ea W fun env => ((xa env).bind fun u => (asB u).bind fun k => if k = true then .ok (.bool true) else xb env).bind asB) :=
  PWi (pw_or ha hb) fun σ H Q ⟨F, env, r, q⟩ => ⟨F, env, r, by
    have e : (((xa env).bind fun u => (asB u).bind fun k => if k = true then R.ok (.bool true) else xb env).bind asB) = ((xa env).bind asB).bind fun k => if k = true then .ok true else (xb env).bind asB := by
      rw [bindB]
      cases (xa env).bind asB with
      | ok k => cases k <;> rfl
      | _ => rfl
    dsimp only at q
    rw [e] at q
    exact q.bind fun k F1 H1 _ e1 q1 => by
      cases k with
      | false => exact ⟨F1, env, r.grow e1, q1⟩
      | true => exact AnsW.here e1.sub q1⟩
theorem pt_notD (ha : PT X a (rdT X.K F0 H0 ea W fun env => (xa env).bind asB)) :
    PT X (.UnaryOp .Not a pos) (rdT X.K F0 H0 ea W fun env => ((xa env).bind fun u => (asB u).bind fun k => .ok (.bool (!k))).bind asB) :=
  PTi (pt_not ha) fun σ H Q ⟨F, env, r, q⟩ => ⟨F, env, r, by
    have e : (((xa env).bind fun u => (asB u).bind fun k => R.ok (.bool (!k))).bind asB) = ((xa env).bind asB).bind fun k => .ok (!k) := by
      rw [bindB]
      cases (xa env).bind asB <;> rfl
    dsimp only at q
    rw [e] at q
    exact q.bind fun k F1 H1 _ e1 q1 => AnsW.here e1.sub q1⟩
theorem pe_iteD (hc : PT X c (rdT X.K F0 H0 ea W fun env => (xc env).bind asB)) (ha : PE X a (rdV X.K F0 H0 ea W false xa)) (hb : PE X b (rdV X.K F0 H0 ea W false xb)) :
    PE X (.IfExp c a b pos) (rdV X.K F0 H0 ea W false fun env => (xc env).bind fun u => (asB u).bind fun k => if k = true then xa env else xb env) :=
  PEi (pe_ifExp hc ha hb) fun σ H Q ⟨F, env, r, q⟩ => ⟨F, env, r, by
    dsimp only at q
    rw [bindB] at q
    exact q.bind fun k F1 H1 _ e1 q1 => by
      cases k with
      | true => exact ⟨F1, env, r.grow e1, q1⟩
      | false => exact ⟨F1, env, r.grow e1, q1⟩⟩
theorem pt_iteD (hc : PT X c (rdT X.K F0 H0 ea W fun env => (xc env).bind asB)) (ha : PT X a (rdT X.K F0 H0 ea W fun env => (xa env).bind asB)) (hb : PT X b (rdT X.K F0 H0 ea W fun env => (xb env).bind asB)) :
    PT X (.IfExp c a b pos) (rdT X.K F0 H0 ea W fun env => ((xc env).bind fun u => (asB u).bind fun k => if k = true then xa env else xb env).bind asB) := by
  refine ⟨fun pins s σ H Q I ⟨F, env, r, q⟩ => ?_⟩
  dsimp only at q
  rw [bindB] at q
  have e : ((((xc env).bind asB).bind fun k => if k = true then xa env else xb env).bind asB) = ((xc env).bind asB).bind fun k => if k = true then (xa env).bind asB else (xb env).bind asB := by
    cases (xc env).bind asB with
    | ok k => cases k <;> rfl
    | _ => rfl
  rw [e] at q
  refine isTrue_IfExp (thn (hc.run pins s σ H (fun k H1 => if k = true then rdT X.K F0 H0 ea W (fun env => (xa env).bind asB) σ H1 Q else rdT X.K F0 H0 ea W (fun env => (xb env).bind asB) σ H1 Q) I ⟨F, env, r, q.bind fun k F1 H1 _ e1 q1 => ?_⟩) fun k s1 ⟨H1, I1, q1⟩ => ?_)
  · cases k with
    | true => exact ⟨F1, env, r.grow e1, q1⟩
    | false => exact ⟨F1, env, r.grow e1, q1⟩
  · cases k with
    | true => exact ha.run pins s1 σ H1 Q I1 q1
    | false => exact hb.run pins s1 σ H1 Q I1 q1
/-! ### a <= b <= c -/
theorem mark2 (hs : shp c = true) : lastMarks [CmpOp.LtE, CmpOp.LtE] [b, c] = false := shp_mark hs _
theorem pe_chnD (hr : Rm X) (hs : shp c = true) (ha : PE X a (rdV X.K F0 H0 ea W false xa)) (hb : PE X b (rdV X.K F0 H0 ea W false xb)) (hc : PE X c (rdV X.K F0 H0 ea W false xc)) :
    PE X (.Compare a [.LtE, .LtE] [b, c] pos) (rdV X.K F0 H0 ea W false fun env => (xa env).bind fun u => (xb env).bind fun v => (dLe u v).bind fun k => if k = true then (xc env).bind fun z => (dLe v z).bind fun k => .ok (.bool k) else .ok (.bool false)) :=
  PEi (pe_chain (opc_le hr) (opc_le hr) ha hb hc (mark2 hs)) fun σ H Q ⟨F, env, r, q⟩ => ⟨F, env, r, q.bind fun u F1 H1 _ e1 q1 v1 r1 => ⟨F1, env, r.grow e1, q1.bind fun w F2 H2 _ e2 q2 v2 r2 =>
    ⟨F2, u, w, e2.sub, r1.b.grow e2, r2.b, (q2.bind fun k F3 H3 _ e3 q3 => ⟨k, rfl, by
      cases k with
      | false => exact AnsW.here e3.sub q3 _ (Rp.bl false)
      | true => exact ⟨F3, env, r.grow ((e1.trans e2).trans e3), AnsW.bind q3 fun z F4 H4 _ e4 q4 v4 r4 => ⟨F4, w, z, e4.sub, (r2.b.grow e3).grow e4, r4.b,
          (q4.bind fun k F5 H5 _ e5 q5 => AnsW.here e5.sub q5 _ (Rp.bl k) : AnsW F4 H4 (dLe w z) (fun k _ H5 => Q (.bl k) H5) _).toT (noX_le _ _)⟩⟩⟩ : AnsW F2 H2 (dLe u w) (fun k _ H3 => ∃ k', V.bl k = .bl k' ∧ _) _).toT (noX_le _ _)⟩⟩⟩
theorem pt_chnD (hr : Rm X) (hs : shp c = true) (ha : PE X a (rdV X.K F0 H0 ea W false xa)) (hb : PE X b (rdV X.K F0 H0 ea W false xb)) (hc : PE X c (rdV X.K F0 H0 ea W false xc)) :
    PT X (.Compare a [.LtE, .LtE] [b, c] pos) (rdT X.K F0 H0 ea W fun env => ((xa env).bind fun u => (xb env).bind fun v => (dLe u v).bind fun k => if k = true then (xc env).bind fun z => (dLe v z).bind fun k => .ok (.bool k) else .ok (.bool false)).bind asB) :=
  PTi (pt_chain (opc_le hr) (opc_le hr) ha hb hc (mark2 hs)) fun σ H Q ⟨F, env, r, q⟩ => by
    have e : (((xa env).bind fun u => (xb env).bind fun v => (dLe u v).bind fun k => if k = true then (xc env).bind fun z => (dLe v z).bind fun k => R.ok (.bool k) else .ok (.bool false)).bind asB) =
        (xa env).bind fun u => (xb env).bind fun v => (dLe u v).bind fun k => if k = true then (xc env).bind fun z => dLe v z else .ok false := by
      cases xa env with
      | ok u =>
        simp only [R.bind_ok]
        cases xb env with
        | ok v =>
          simp only [R.bind_ok]
          cases dLe u v with
          | ok k =>
            cases k with
            | false => rfl
            | true =>
              simp only [R.bind_ok, if_true]
              cases xc env with
              | ok z =>
                simp only [R.bind_ok]
                cases dLe v z <;> rfl
              | _ => rfl
          | _ => rfl
        | _ => rfl
      | _ => rfl
    refine ⟨F, env, r, ?_⟩
    dsimp only at q
    rw [e] at q
    exact q.bind fun u F1 H1 _ e1 q1 v1 r1 => ⟨F1, env, r.grow e1, q1.bind fun w F2 H2 _ e2 q2 v2 r2 =>
      ⟨F2, u, w, e2.sub, r1.b.grow e2, r2.b, (q2.bind fun k F3 H3 _ e3 q3 => ⟨k, rfl, by
        cases k with
        | false => exact ⟨false, rfl, AnsW.here e3.sub q3⟩
        | true => exact ⟨F3, env, r.grow ((e1.trans e2).trans e3), AnsW.bind q3 fun z F4 H4 _ e4 q4 v4 r4 => ⟨F4, w, z, e4.sub, (r2.b.grow e3).grow e4, r4.b,
            (q4.imp fun k F5 H5 e5 q5 => ⟨k, rfl, q5⟩ : AnsW F4 H4 (dLe w z) (fun k _ H5 => ∃ k', V.bl k = .bl k' ∧ Q k' H5) _).toT (noX_le _ _)⟩⟩⟩ : AnsW F2 H2 (dLe u w) (fun k _ H3 => ∃ k', V.bl k = .bl k' ∧ _) _).toT (noX_le _ _)⟩⟩
/-! ### argument lists, displays -/
theorem pa_nilD : PA X [] (rdA X.K F0 H0 ea W bor fun _ => .ok []) := PAi pa_nil fun σ H Q ⟨F, env, r, q⟩ => AnsW.here r.sub q _ .nil
theorem Rbs.grow {K : PySem.W.Frag} {F H F1 H1 : Hp} {vs : List V} {ds : List D} (e : Ext F H F1 H1) (h : Rbs K bor F H vs ds) : Rbs K bor F1 H1 vs ds := by
  unfold Rbs at h ⊢
  split at h
  · rename_i hb; rw [if_pos hb]; exact RpBs.grow e h
  · rename_i hb; rw [if_neg hb]; exact h.mono e.ff
theorem pa_consD {es : List Expr} {xr : Env → R (List D)} (hs : shp a = true) (ha : PE X a (rdV X.K F0 H0 ea W bor xa)) (hr : PA X es (rdA X.K F0 H0 ea W bor xr)) :
    PA X (a :: es) (rdA X.K F0 H0 ea W bor fun env => (xa env).bind fun u => (xr env).bind fun us => .ok (u :: us)) :=
  PAi (pa_cons ha hr (shp_star hs es)) fun σ H Q ⟨F, env, r, q⟩ => ⟨F, env, r, q.bind fun u F1 H1 _ e1 q1 v1 r1 => ⟨F1, env, r.grow e1, q1.bind fun us F2 H2 _ e2 q2 vs r2 =>
    AnsW.here e2.sub q2 _ (.cons (r1.grow e2) r2)⟩⟩
theorem pe_tupD {es : List Expr} {xr : Env → R (List D)} {k : Nat} (h : PA X es (rdA X.K F0 H0 ea W false xr)) :
    PE X (.Tuple es k pos) (rdV X.K F0 H0 ea W false fun env => (xr env).bind fun ds => if ds.length ≤ 16777216 then .ok (.tuple ds) else .no) :=
  PEi (pe_tup h) fun σ H Q ⟨F, env, r, q⟩ => ⟨F, env, r, q.bind fun ds F1 H1 _ e1 q1 vs r1 => by
    have r1 : RpAll X.K F1 vs ds := r1
    split at q1
    · rename_i hz
      refine ⟨by rw [sz_eq, r1.length]; exact hz, fun p hp => ?_⟩
      have e2 := (Ext.refl e1.sub).frozen (p := p) (o := .tup vs) hp
      exact q1 _ _ e2 _ (Rp.tup (.inl (.inl upd_same)) (r1.mono e2.ff))
    · exact q1.elim⟩
theorem pe_lstD {es : List Expr} {xr : Env → R (List D)} (h : PA X es (rdA X.K F0 H0 ea W false xr)) :
    PE X (.List es pos) (rdG X.K F0 H0 ea W fun env => (xr env).bind fun ds => if ds.length ≤ 16777216 then .ok (.list ds) else .no) :=
  PEi (pe_lst h) fun σ H Q ⟨F, env, r, q⟩ => ⟨F, env, r, q.bind fun ds F1 H1 _ e1 q1 vs r1 => by
    have r1 : RpAll X.K F1 vs ds := r1
    split at q1
    · rename_i hz
      refine ⟨by rw [sz_eq, r1.length]; exact hz, fun p hp => ?_⟩
      exact (q1 _ _ ((Ext.refl e1.sub).loose hp)).2 ds p vs rfl (e1.hh.free hp) upd_same (e1.sub.free hp) r1
    · exact q1.elim⟩
/-! ### built-in calls -/
theorem rbl_of {bl : Blt} {xr : Env → R (List D)} {t : TA} (hb : bl ≠ .min1) : ∀ σ H Q, rdG X.K F0 H0 ea W (fun env => (xr env).bind (dBlt bl)) σ H Q → tCB (rBl X.K bl) (rdA X.K F0 H0 ea W true xr) σ H Q := fun σ H Q ⟨F, env, r, q⟩ =>
  ⟨F, env, r, q.bind fun ds F1 H1 _ e1 q1 vs r1 => ⟨F1, ds, e1.sub, r1, by
    have q2 := q1.toG (noX_blt bl ds) fun p hp => e1.hh.free hp
    cases bl <;> first
      | exact q2
      | exact absurd rfl hb⟩⟩
theorem rbl_min {xr : Env → R (List D)} {t : TA} : ∀ σ H Q, rdV X.K F0 H0 ea W false (fun env => (xr env).bind (dBlt .min1)) σ H Q → tCB (rBl X.K .min1) (rdA X.K F0 H0 ea W true xr) σ H Q := fun σ H Q ⟨F, env, r, q⟩ =>
  ⟨F, env, r, q.bind fun ds F1 H1 _ e1 q1 vs r1 => ⟨F1, ds, e1.sub, r1, q1.toA (noX_blt .min1 ds)⟩⟩
end
end Fp

set_option Elab.async false
set_option linter.all false
set_option maxRecDepth 100000
set_option maxHeartbeats 1000000
/-! Calls, isinstance, methods; targets; what is walked; comprehensions. -/
namespace Fp
open PySem PySem.Spec PyProof.Rows L2
section
variable {X : Cx} {F0 H0 : Hp} {ea : Ea} {W : WD} {bor : Bool} {x a b c : Expr} {xa xb xc : Env → R D} {pos : Pos}
/-! ### isinstance(x, T) -/
def rIsi (K : PySem.W.Frag) (t : Ty) (n : String) : List V → Hp → VK → Prop := fun xs H Q => ∃ F v d, xs = [v, .ty n] ∧ Same F H ∧ RpB K F H v d ∧ Q (.bl (isTy t d)) H
def tyS : Ty → String
  | .int => "int"
  | .bool => "bool"
  | .str => "str"
  | .tuple => "tuple"
  | .list => "list"
theorem call_isi (t : Ty) : CallR X (.builtin "isinstance") (rIsi X.K t (tyS t)) := by
  intro pins s σ H xs us Q I r ⟨F, v, d, ex, hs, hv, q⟩
  subst ex
  obtain ⟨u1, u2, rfl, r1, r2⟩ := Vals.two r
  cases (show u2 = Value.type (tyS t) from r2)
  obtain ⟨as, rd⟩ := Dp.reads I d v u1 (hv.dp hs) r1
  have := isiTy (prog := X.prog) (w := X.w) (A := X.A) (E := X.xe) t rd (Q := EP X pins σ Q) fun tk => ⟨.bl _, H, I.tok tk, rfl, q⟩
  cases t <;> exact this
theorem boot_ty (t : Ty) : bootBuiltins (tyNm t) = some (.type (tyS t)) := by cases t <;> first | rfl | decide
theorem boot_isi : bootBuiltins ("isinstance" : Str) = some (.builtin "isinstance") := by first | rfl | decide
theorem pe_isiD {t : Ty} {p p2 : Pos} (hg : Gl X "isinstance") (hm : X.mg "isinstance" = none) (hg2 : Gl X (tyNm t)) (hm2 : X.mg (tyNm t) = none) (hs : shp a = true) (ha : PE X a (rdV X.K F0 H0 ea W true xa)) :
    PE X (.Call (.Name "isinstance" p) [a, .Name (tyNm t) p2] [] pos) (rdV X.K F0 H0 ea W false fun env => (xa env).bind fun u => .ok (.bool (isTy t u))) := by
  have h2 : PE X (.Name (tyNm t) p2) (tC (.ty (tyS t))) := pe_bltn hg2 hm2 (boot_ty t) rfl (by cases t <;> decide) (by cases t <;> decide)
  refine PEi (pe_callB (call_isi t) hg hm boot_isi (pa_cons ha (pa_cons h2 pa_nil) (shp_star hs _)) (by decide) (by decide) (shp_star hs _) rfl) fun σ H Q ⟨F, env, r, q⟩ => ⟨F, env, r, q.bind fun u F1 H1 _ e1 q1 v1 r1 => ?_⟩
  exact ⟨F1, v1, u, rfl, e1.sub, r1.b, AnsW.here e1.sub q1 _ (Rp.bl _)⟩
/-! ### xs.index(y), xs.count(y) -/
theorem RpBs.ofAll {K : PySem.W.Frag} {F H : Hp} : ∀ {vs : List V} {ds : List D}, RpAll K F vs ds → RpBs K F H vs ds
  | _, _, .nil => .nil
  | _, _, .cons h t => .cons (.inl h) (RpBs.ofAll t)
theorem pe_metD {m : Met} {apos : Pos} {xr : Env → R (List D)} (hr : Rm X) (hl : (apos.endLine == pos.line) = true) (hs : shp a = true) (hs2 : shp b = true) (ha : PE X a (rdV X.K F0 H0 ea W true xa)) (hb : PA X [b] (rdA X.K F0 H0 ea W false xr)) :
    PE X (.Call (.Attribute a (metNm m) apos) [b] [] pos) (rdV X.K F0 H0 ea W false fun env => (xa env).bind fun u => (sqL u).bind fun xs => (xr env).bind fun vs => dMet m (.list xs) vs) := by
  have hfew : ((backTo pos (starEach (b :: []) X.env)).all (fun x => !x.1) && (backToKw pos (keywordEach [] X.env)).all (fun x => x.1.isSome)
      && decide ((b :: ([] : List Expr)).length + ([] : List Keyword).length + (if ([] : List Keyword).isEmpty then 0 else 1) < 30)) = true := by
    rw [shp_star hs2]
    rfl
  have hp : PE X (.Call (.Attribute a (metNm m) apos) [b] [] pos) (tBM X.K "list" (rMet X.K m) (rdV X.K F0 H0 ea W true xa) (rdA X.K F0 H0 ea W false xr)) := by
    cases m with
    | index => exact pe_bm PySem.F.plainAttrs_list PySem.F.slot_list_index PySem.F.type_list_index (mt_met hr .index) ha hb (shp_base hs _) hfew hl (shp_star hs2 _) rfl
    | count => exact pe_bm PySem.F.plainAttrs_list PySem.F.slot_list_count PySem.F.type_list_count (mt_met hr .count) ha hb (shp_base hs _) hfew hl (shp_star hs2 _) rfl
  refine PEi hp fun σ H Q ⟨F, env, r, q⟩ => ⟨F, env, r, q.bind fun u F1 H1 _ e1 q1 v1 r1 => ?_⟩
  cases u with
  | list xs =>
    obtain ⟨p, vs, rfl, h1, hr1⟩ := r1.b.list e1.sub
    refine ⟨.inl ⟨rfl, vs, h1.sq⟩, F1, env, r.grow e1, ?_⟩
    have q1 : AnsW F1 H1 ((xr env).bind fun vs => dMet m (.list xs) vs) (fun d F' H' => ∀ v, Rb X.K false F' H' v d → Q v H') fun c H' => W c σ H' := q1
    exact q1.bind fun ds F2 H2 _ e2 q2 v2 r2 => ⟨F2, .list xs, ds, e2.sub, r1.b.grow e2, RpBs.ofAll r2, q2.toA (noX_met m _ _)⟩
  | _ => exact q1.elim
/-! ### a call of a def -/
/-- a def's promise: what g says -/
def spF (K : PySem.W.Frag) (cv : Str → Value) (np : Nat) (g : List D → R D) : Sp := fun vs H Q Ex => vs.length = np ∧ ∃ F ds, Same F H ∧ RpAll K F vs ds ∧
  AnsW F H (g ds) (fun d F' H' => ∀ v, Rp K F' v d → Q v H') fun c H' => Ex (cv c) none H'
structure Callee (X : Cx) (cv : Str → Value) (x : Str) (np : Nat) (g : List D → R D) : Prop where
  ok : ∃ k f fd ps, FnOk X.prog X.w X.K X.mg X.base (L2.CX X.prog X.w) k f fd ps (spF X.K cv np g) ∧ Room k X.A ∧ X.mg x = some (.ref f) ∧ PySem.W.keepIn X.K (.ref f) = true ∧ Binds X.K fd ps []
/-- the wish about exceptions, by their names -/
def wx (cv : Str → Value) (W : WD) : WX := fun c d σ H => ∃ n, c = cv n ∧ d = none ∧ W n σ H
theorem pe_callD {cv : Str → Value} {n : Str} {np : Nat} {g : List D → R D} {es : List Expr} {xr : Env → R (List D)} {p : Pos} (tk : Takes X (wx cv W)) (C : Callee X cv n np g) (hg : Gl X n) (hd : (n == ("__debug__" : Str)) = false)
    (hs : ∀ y ∈ a :: es, shp y = true) (hl : ∀ env ds, xr env = .ok ds → ds.length = np) (ha : PA X (a :: es) (rdA X.K F0 H0 ea W false xr)) :
    PE X (.Call (.Name n p) (a :: es) [] pos) (rdV X.K F0 H0 ea W false fun env => (xr env).bind g) := by
  obtain ⟨k, f, fd, ps, F, hr, hm, hk, hb⟩ := C.ok
  refine PEi (pe_callSD (E := WE (wx cv W)) (dvs := []) F hr hg hm hk hb .nil (fun σ => passAt tk σ) ha hd (shp_star (hs a List.mem_cons_self) es) (backTo_any (starOk fun y hy => hs y (List.mem_cons_of_mem _ hy)))) fun σ H Q ⟨F, env, r, q⟩ =>
    ⟨F, env, r, q.bind fun ds F1 H1 hok e1 q1 vs r1 => ?_⟩
  have r1 : RpAll X.K F1 vs ds := r1
  show spF X.K cv np g (vs ++ []) H1 Q (WE (wx cv W) σ)
  rw [List.append_nil]
  refine ⟨by rw [r1.length]; exact hl env ds hok, F1, ds, e1.sub, r1, ?_⟩
  revert q1
  cases g ds with
  | ok d => exact fun q1 F' H' e v hv => q1 F' H' e v hv
  | ex c => exact fun q1 F' H' e => ⟨c, rfl, rfl, q1 F' H' e⟩
  | no => exact fun q => q
end
/-! ### targets -/
/-- the owned slots are owned before -/
def OwnSub (env' : Fp.Env) (σ' : L2.St) (env : Fp.Env) (σ : L2.St) : Prop := ∀ (i : Nat) (a : Addr), (∃ d, env'[i]? = some (Slot.own d)) → σ'[i]? = some (some (V.ref a)) → (∃ d, env[i]? = some (Slot.own d)) ∧ σ[i]? = some (some (V.ref a))
theorem OwnSub.refl {env : Fp.Env} {σ : L2.St} : OwnSub env σ env σ := fun _ _ h1 h2 => ⟨h1, h2⟩
theorem OwnSub.trans {e1 e2 e3 : Fp.Env} {s1 s2 s3 : L2.St} (h : OwnSub e1 s1 e2 s2) (k : OwnSub e2 s2 e3 s3) : OwnSub e1 s1 e3 s3 := fun i a h1 h2 => let ⟨h3, h4⟩ := h i a h1 h2; k i a h3 h4
section
variable {K : PySem.W.Frag} {F0 H0 F H F1 H1 : Hp} {ea : Ea} {env : Fp.Env} {σ : L2.St}
theorem set_get {α : Type} {l : List α} {i j : Nat} {x y : α} (h : (l.set i x)[j]? = some y) : (j = i ∧ y = x ∧ i < l.length) ∨ (j ≠ i ∧ l[j]? = some y) := by
  by_cases e : i = j
  · subst e
    by_cases hl : i < l.length
    · rw [List.getElem?_set_self hl] at h
      exact .inl ⟨rfl, (Option.some.inj h).symm, hl⟩
    · rw [List.getElem?_eq_none (by simpa using hl)] at h; cases h
  · rw [List.getElem?_set_ne e] at h
    exact .inr ⟨fun z => e z.symm, h⟩
theorem set_none {α : Type} {l : List α} {i j : Nat} {x y : α} (h : (l.set i x)[j]? = some y) (hi : ¬ i < l.length) : l[j]? = some y := by
  rcases set_get h with ⟨_, _, h⟩ | ⟨_, h⟩
  · exact absurd h hi
  · exact h
/-- a slot that is not owned is stored -/
theorem Rel.setN {i : Nat} {s : Slot} {x : Option V} (r : Rel K F0 H0 ea env σ F H) (hs : SlotOk K H0 F H ea s x) (hn : ∀ d, s ≠ .own d) : Rel K F0 H0 ea (env.set i s) (σ.set i x) F H := by
  refine ⟨r.ext, by rw [List.length_set, List.length_set]; exact r.len, fun j s' x' h1 h2 => ?_, fun j k s' t' x' y' a hjk h1 h2 h3 h4 o1 o2 => ?_⟩
  · rcases set_get h1 with ⟨e1, e2, e3⟩ | ⟨e1, e2⟩
    · rcases set_get h2 with ⟨f1, f2, f3⟩ | ⟨f1, f2⟩
      · subst e2 f2; exact hs
      · exact absurd e1 f1
    · rcases set_get h2 with ⟨f1, f2, f3⟩ | ⟨f1, f2⟩
      · exact absurd f1 e1
      · exact r.slot j s' x' e2 f2
  · have nown : ∀ {m : Nat} {u : Slot} {z : Option V}, (env.set i s)[m]? = some u → (σ.set i x)[m]? = some z → ownA u z a → env[m]? = some u ∧ σ[m]? = some z := fun {m u z} g1 g2 o => by
      rcases set_get g1 with ⟨e1, e2, e3⟩ | ⟨e1, e2⟩
      · obtain ⟨⟨d, hd⟩, _⟩ := o
        exact absurd (e2 ▸ hd) (hn d)
      · rcases set_get g2 with ⟨f1, f2, f3⟩ | ⟨f1, f2⟩
        · exact absurd f1 e1
        · exact ⟨e2, f2⟩
    obtain ⟨a1, a2⟩ := nown h1 h3 o1
    obtain ⟨b1, b2⟩ := nown h2 h4 o2
    exact r.apart j k s' t' x' y' a hjk a1 b1 a2 b2 o1 o2
theorem OwnSub.setN {i : Nat} {s : Slot} {x : Option V} (hn : ∀ d, s ≠ .own d) (hl : env.length = σ.length) : OwnSub (env.set i s) (σ.set i x) env σ := by
  intro j a hd h2
  obtain ⟨d, h1⟩ := hd
  rcases set_get h1 with ⟨e1, e2, e3⟩ | ⟨e1, e2⟩
  · exact absurd e2.symm (hn d)
  · rcases set_get h2 with ⟨f1, f2, f3⟩ | ⟨f1, f2⟩
    · exact absurd f1 e1
    · exact ⟨⟨d, e2⟩, f2⟩
theorem Rel.wipe (r : Rel K F0 H0 ea env σ F H) : ∀ vs : List Nat, Rel K F0 H0 ea (wipeE env vs) (L2.wipe σ vs) F H
  | [] => r
  | v :: vs => (Rel.wipe r vs).setN trivial fun _ e => nomatch e
theorem OwnSub.wipe (hl : env.length = σ.length) : ∀ vs : List Nat, OwnSub (wipeE env vs) (L2.wipe σ vs) env σ ∧ (wipeE env vs).length = (L2.wipe σ vs).length
  | [] => ⟨.refl, hl⟩
  | v :: vs => by
    obtain ⟨h1, h2⟩ := OwnSub.wipe hl vs
    refine ⟨(OwnSub.setN (s := Slot.un) (fun _ e => nomatch e) h2).trans h1, ?_⟩
    show ((wipeE env vs).set v .un).length = ((L2.wipe σ vs).set v none).length
    rw [List.length_set, List.length_set]; exact h2
theorem wipe_get {σ : L2.St} : ∀ {vs : List Nat} (j : Nat), (L2.wipe σ vs)[j]? = if j ∈ vs then (σ[j]?).map fun _ => none else σ[j]?
  | [], j => by simp [L2.wipe]
  | v :: vs, j => by
    show ((L2.wipe σ vs).set v none)[j]? = _
    by_cases e : v = j
    · subst e
      rw [if_pos List.mem_cons_self]
      by_cases hl : v < σ.length
      · rw [List.getElem?_set_self (by rw [wipe_length]; exact hl), List.getElem?_eq_getElem hl]
        rfl
      · rw [List.getElem?_eq_none (by rw [List.length_set, wipe_length]; omega), List.getElem?_eq_none (by omega)]
        rfl
    · rw [List.getElem?_set_ne e, wipe_get j]
      by_cases h : j ∈ vs
      · rw [if_pos h, if_pos (List.mem_cons_of_mem _ h)]
      · rw [if_neg h, if_neg (fun z => (List.mem_cons.mp z).elim (fun q => e q.symm) h)]
theorem wipe_set {σ : L2.St} {i : Nat} {x : Option V} {vs : List Nat} (h : i ∈ vs) : L2.wipe (σ.set i x) vs = L2.wipe σ vs := by
  apply List.ext_getElem?
  intro j
  rw [wipe_get, wipe_get]
  by_cases e : i = j
  · subst e
    rw [if_pos h, if_pos h]
    by_cases hl : i < σ.length
    · rw [List.getElem?_set_self hl, List.getElem?_eq_getElem hl]; rfl
    · rw [List.getElem?_eq_none (by simpa using hl), List.getElem?_eq_none (by omega)]
  · rw [List.getElem?_set_ne e]
theorem wipe_wipe {σ : L2.St} {vs : List Nat} : L2.wipe (L2.wipe σ vs) vs = L2.wipe σ vs := by
  apply List.ext_getElem?
  intro j
  rw [wipe_get, wipe_get]
  by_cases h : j ∈ vs
  · rw [if_pos h, if_pos h]
    cases σ[j]? <;> rfl
  · rw [if_neg h, if_neg h]
theorem wipe_sub {σ σ' : L2.St} {vs ws : List Nat} (h : ∀ i ∈ vs, i ∈ ws) (e : L2.wipe σ' vs = L2.wipe σ vs) : L2.wipe σ' ws = L2.wipe σ ws := by
  apply List.ext_getElem?
  intro j
  have q : (L2.wipe σ' vs)[j]? = (L2.wipe σ vs)[j]? := by rw [e]
  rw [wipe_get, wipe_get] at q
  rw [wipe_get, wipe_get]
  by_cases hj : j ∈ vs
  · rw [if_pos hj, if_pos hj] at q
    rw [if_pos (h j hj), if_pos (h j hj)]
    exact q
  · rw [if_neg hj, if_neg hj] at q
    rw [q]
end
/-- a target's reading -/
def rdP (K : PySem.W.Frag) (F0 H0 : Hp) (ea : Ea) (tg : Tg) : TG := fun v σ H Q => ∃ F env d env', Rel K F0 H0 ea env σ F H ∧ Rp K F v d ∧ asg tg d env = .ok env' ∧
  ∀ σ', Rel K F0 H0 ea env' σ' F H → L2.wipe σ' (tgv tg) = L2.wipe σ (tgv tg) → OwnSub env' σ' env σ → Q σ' H
section
variable {X : Cx} {F0 H0 : Hp} {ea : Ea} {G : Gx} {bk : Bk}
theorem PGi {x : Expr} {t t' : TG} (h : PG X x t) (k : ∀ v σ H Q, t' v σ H Q → t v σ H Q) : PG X x t' := ⟨fun pins s σ H v u Q I r q => h.run pins s σ H v u Q I r (k v σ H Q q)⟩
theorem tg_star {tg : Tg} {x : Expr} {env : PySem.Env} (h : chkTg G bk tg x = true) (es : List Expr) : assignEach (x :: es) env = (false, assign x env) :: assignEach es env := by
  cases x <;> first
    | rfl
    | (cases tg <;> simp [chkTg] at h)
theorem tg_sound (hc : X.calm = true) (hN : X.N = G.N) (nd : X.N.Nodup) (st : ∀ x, bk.st x = true → Loc X.env.scope x ∧ (X.fn x = true ∨ X.env.scope.names.lookup x = some .local)) :
    ∀ (tg : Tg) (x : Expr), chkTg G bk tg x = true → PG X x (rdP X.K F0 H0 ea tg)
  | .nm i, .Name x p, h => by
    simp only [chkTg, Bool.and_eq_true, decide_eq_true_eq] at h
    obtain ⟨s1, s2⟩ := st x h.2
    refine PGi (pg_name nd (by rw [hN]; exact h.1) s1 s2) fun v σ H Q ⟨F, env, d, env', r, rp, ha, k⟩ => ?_
    simp only [asg] at ha
    split at ha
    · cases ha
      refine k _ (r.setN ⟨v, rfl, rp⟩ fun _ e => nomatch e) (wipe_set List.mem_cons_self) (OwnSub.setN (fun _ e => nomatch e) r.len)
    · cases ha
  | .t2 a b, .Tuple [x, y] k p, h => by
    simp only [chkTg, Bool.and_eq_true] at h
    have ga := tg_sound hc hN nd st a x h.1
    have gb := tg_sound hc hN nd st b y h.2
    have hs1 : assignEach [x, y] X.env = (false, assign x X.env) :: assignEach [y] X.env := tg_star h.1 _
    have hs2 : assignEach [y] X.env = (false, assign y X.env) :: [] := tg_star h.2 _
    refine PGi (pg_tup (n := 2) hc (pgs_cons ga (pgs_cons gb pgs_nil (by rw [hs2]; rfl)) (by rw [hs1]; rfl)) (by rw [hs1, hs2]; rfl) (by rw [hs1, hs2]; rfl)) fun v σ H Q ⟨F, env, d, env', r, rp, ha, k⟩ => ?_
    cases d with
    | tuple ds =>
      match ds, rp, ha with
      | [dx, dy], rp, ha =>
        simp only [asg] at ha
        cases e1 : asg a dx env with
        | ok en1 =>
          rw [e1] at ha
          have ha : asg b dy en1 = .ok env' := ha
          cases rp with
          | tup hq hr =>
            cases hr with
            | cons r1 hr =>
              cases hr with
              | cons r2 hr =>
                cases hr
                refine ⟨_, _, rfl, Fp.Same.seqT r.sub hq, rfl, _, _, rfl, F, env, dx, en1, r, r1, e1, fun σ1 R1 w1 o1 => ⟨_, _, rfl, F, en1, dy, env', R1, r2, ha, fun σ2 R2 w2 o2 => ⟨rfl, k σ2 R2 ?_ (o2.trans o1)⟩⟩⟩
                rw [wipe_sub (ws := tgv (.t2 a b)) (fun i hi => List.mem_append_right _ hi) w2, wipe_sub (ws := tgv (.t2 a b)) (fun i hi => List.mem_append_left _ hi) w1]
        | ex c => rw [e1] at ha; cases ha
        | no => rw [e1] at ha; cases ha
      | [], rp, ha => simp [asg] at ha
      | [_], rp, ha => simp [asg] at ha
      | _ :: _ :: _ :: _, rp, ha => simp [asg] at ha
    | _ => simp [asg] at ha
  | .t3 a b c, .Tuple [x, y, z] k p, h => by
    simp only [chkTg, Bool.and_eq_true] at h
    have ga := tg_sound hc hN nd st a x h.1.1
    have gb := tg_sound hc hN nd st b y h.1.2
    have gc := tg_sound hc hN nd st c z h.2
    have hs1 : assignEach [x, y, z] X.env = (false, assign x X.env) :: assignEach [y, z] X.env := tg_star h.1.1 _
    have hs2 : assignEach [y, z] X.env = (false, assign y X.env) :: assignEach [z] X.env := tg_star h.1.2 _
    have hs3 : assignEach [z] X.env = (false, assign z X.env) :: [] := tg_star h.2 _
    refine PGi (pg_tup (n := 3) hc (pgs_cons ga (pgs_cons gb (pgs_cons gc pgs_nil (by rw [hs3]; rfl)) (by rw [hs2]; rfl)) (by rw [hs1]; rfl)) (by rw [hs1, hs2, hs3]; rfl) (by rw [hs1, hs2, hs3]; rfl)) fun v σ H Q ⟨F, env, d, env', r, rp, ha, k⟩ => ?_
    cases d with
    | tuple ds =>
      match ds, rp, ha with
      | [dx, dy, dz], rp, ha =>
        simp only [asg] at ha
        cases e1 : asg a dx env with
        | ok en1 =>
          rw [e1] at ha
          have ha : ((asg b dy en1).bind fun e => asg c dz e) = .ok env' := ha
          cases e2 : asg b dy en1 with
          | ok en2 =>
            rw [e2] at ha
            have ha : asg c dz en2 = .ok env' := ha
            cases rp with
            | tup hq hr =>
              cases hr with
              | cons r1 hr =>
                cases hr with
                | cons r2 hr =>
                  cases hr with
                  | cons r3 hr =>
                    cases hr
                    refine ⟨_, _, rfl, Fp.Same.seqT r.sub hq, rfl, _, _, rfl, F, env, dx, en1, r, r1, e1, fun σ1 R1 w1 o1 => ⟨_, _, rfl, F, en1, dy, en2, R1, r2, e2, fun σ2 R2 w2 o2 => ⟨_, _, rfl, F, en2, dz, env', R2, r3, ha, fun σ3 R3 w3 o3 => ⟨rfl, k σ3 R3 ?_ (o3.trans (o2.trans o1))⟩⟩⟩⟩
                    rw [wipe_sub (ws := tgv (.t3 a b c)) (fun i hi => List.mem_append_right _ (List.mem_append_right _ hi)) w3, wipe_sub (ws := tgv (.t3 a b c)) (fun i hi => List.mem_append_right _ (List.mem_append_left _ hi)) w2, wipe_sub (ws := tgv (.t3 a b c)) (fun i hi => List.mem_append_left _ hi) w1]
          | ex c => rw [e2] at ha; cases ha
          | no => rw [e2] at ha; cases ha
        | ex c => rw [e1] at ha; cases ha
        | no => rw [e1] at ha; cases ha
      | [], rp, ha => simp [asg] at ha
      | [_], rp, ha => simp [asg] at ha
      | [_, _], rp, ha => simp [asg] at ha
      | _ :: _ :: _ :: _ :: _, rp, ha => simp [asg] at ha
    | _ => simp [asg] at ha
end
end Fp

set_option Elab.async false
set_option linter.all false
set_option maxRecDepth 100000
set_option maxHeartbeats 1000000
/-! What is walked; comprehensions. -/
namespace Fp
open PySem PySem.Spec PyProof.Rows L2
section
variable {K : PySem.W.Frag} {F H F1 H1 : Hp} {bor : Bool}
theorem Pk.sub (h : Pk bor F H F1 H1) : Same F F1 ∧ Same F1 H1 := by
  unfold Pk at h
  split at h
  · exact ⟨h.ff, h.sub⟩
  · exact h
theorem Pk.refl (s : Same F H) : Pk bor F H F H := by
  unfold Pk
  split
  · exact .refl s
  · exact ⟨Same.refl _, s⟩
/-- a list that is walked -/
structure LsAt (K : PySem.W.Frag) (bor : Bool) (F H : Hp) (a : Addr) (ds : List D) : Prop where
  ls : ∃ vs, ∀ F' H', Pk bor F H F' H' → SqL K H' a vs ∧ RpAll K F' vs ds
structure TpAt (K : PySem.W.Frag) (bor : Bool) (F H : Hp) (a : Addr) (ds : List D) : Prop where
  ls : ∃ vs, ∀ F' H', Pk bor F H F' H' → SqT K H' a vs ∧ RpAll K F' vs ds
theorem Rb.list {v : V} {ds : List D} (s : Same F H) (h : Rb K bor F H v (.list ds)) : ∃ a, v = .ref a ∧ LsAt K bor F H a ds := by
  unfold Rb at h
  split at h
  · rename_i hb
    obtain ⟨a, vs, e, h1, h2⟩ := h.list s
    refine ⟨a, e, ⟨vs, fun F' H' p => ?_⟩⟩
    unfold Pk at p
    rw [if_pos hb] at p
    exact ⟨(LsX.mono p.hh h1).sq, h2.mono p.ff⟩
  · rename_i hb
    cases h with
    | @lst a xs _ hr ht =>
      refine ⟨a, rfl, ⟨xs, fun F' H' p => ?_⟩⟩
      exact ⟨(LsX.mono p.sub.2 (LsX.mono p.sub.1 hr)).sq, ht.mono p.sub.1⟩
theorem Rb.tuple {v : V} {ds : List D} (s : Same F H) (h : Rb K bor F H v (.tuple ds)) : ∃ a, v = .ref a ∧ TpAt K bor F H a ds := by
  rcases h.b with q | ⟨_, _, _, _, q, _⟩
  · cases q with
    | tup hq ht => exact ⟨_, rfl, ⟨_, fun F' H' p => ⟨Fp.Same.seqT (p.sub.1.trans p.sub.2) hq, ht.mono p.sub.1⟩⟩⟩
  · cases q
theorem Pk.ext (b : Pk bor F1 H1 F H) {F2 H2 : Hp} (e : Ext F H F2 H2) : Pk bor F1 H1 F2 H2 := by
  unfold Pk at b ⊢
  split at b
  · rename_i hb; rw [if_pos hb]; exact b.trans e
  · rename_i hb; rw [if_neg hb]; exact ⟨b.1.trans e.ff, e.sub⟩
theorem LsAt.grow {a : Addr} {ds : List D} (h : LsAt K bor F H a ds) (e : Ext F H F1 H1) : LsAt K bor F1 H1 a ds := by
  obtain ⟨vs, k⟩ := h.ls
  refine ⟨vs, fun F' H' p => k F' H' ?_⟩
  unfold Pk at p ⊢
  split at p
  · rename_i hb; rw [if_pos hb]; exact e.trans p
  · rename_i hb; rw [if_neg hb]; exact ⟨e.ff.trans p.1, p.2⟩
theorem TpAt.grow {a : Addr} {ds : List D} (h : TpAt K bor F H a ds) (e : Ext F H F1 H1) : TpAt K bor F1 H1 a ds := by
  obtain ⟨vs, k⟩ := h.ls
  refine ⟨vs, fun F' H' p => k F' H' ?_⟩
  unfold Pk at p ⊢
  split at p
  · rename_i hb; rw [if_pos hb]; exact e.trans p
  · rename_i hb; rw [if_neg hb]; exact ⟨e.ff.trans p.1, p.2⟩
theorem wk_list {a : Addr} {ds : List D} (h : LsAt K bor F H a ds) : Wk K (Itl K a) ds (Pk bor F H) := by
  obtain ⟨vs, k⟩ := h.ls
  refine ⟨fun i d F' H' hd p => ?_, fun F' H' p => ?_⟩
  · obtain ⟨q, r⟩ := k F' H' p
    obtain ⟨x, hx, rx⟩ := r.get hd
    refine ⟨⟨vs, x, q, hx⟩, fun y H3 ⟨e, hy⟩ => ?_⟩
    subst e
    have := hy vs q
    rw [hx] at this
    cases this
    exact ⟨F', .refl p.sub.2, rx⟩
  · obtain ⟨q, r⟩ := k F' H' p
    exact ⟨vs, q, Nat.le_of_eq r.length⟩
theorem wk_tup {a : Addr} {ds : List D} (h : TpAt K bor F H a ds) : Wk K (Itt K a) ds (Pk bor F H) := by
  obtain ⟨vs, k⟩ := h.ls
  refine ⟨fun i d F' H' hd p => ?_, fun F' H' p => ?_⟩
  · obtain ⟨q, r⟩ := k F' H' p
    obtain ⟨x, hx, rx⟩ := r.get hd
    refine ⟨⟨vs, x, q, hx⟩, fun y H3 ⟨e, hy⟩ => ?_⟩
    subst e
    have := hy vs q
    rw [hx] at this
    cases this
    exact ⟨F', .refl p.sub.2, rx⟩
  · obtain ⟨q, r⟩ := k F' H' p
    exact ⟨vs, q, Nat.le_of_eq r.length⟩
theorem fresh_pair {F' H' : Hp} {T : Addr} {x y : V} {dx dy : D} (s : Same F' H') (hT : H' T = none) (rx : Rp K F' x dx) (ry : Rp K F' y dy) : ∃ F3, Ext F' H' F3 (upd H' T (.tup [x, y])) ∧ Rp K F3 (.ref T) (.tuple [dx, dy]) := by
  have e := (Ext.refl s).frozen (p := T) (o := .tup [x, y]) hT
  exact ⟨_, e, .tup (.inl (.inl upd_same)) (.cons (rx.mono e.ff) (.cons (ry.mono e.ff) .nil))⟩
theorem zip_get {xs ys : List D} {i : Nat} {d : D} (h : (zipD xs ys)[i]? = some d) : ∃ x y, xs[i]? = some x ∧ ys[i]? = some y ∧ d = .tuple [x, y] := by
  unfold zipD at h
  rw [List.getElem?_zipWith] at h
  cases h1 : xs[i]? with
  | none => rw [h1] at h; cases h
  | some x =>
    cases h2 : ys[i]? with
    | none => rw [h1, h2] at h; cases h
    | some y =>
      rw [h1, h2] at h
      cases h
      exact ⟨x, y, rfl, rfl, rfl⟩
theorem wk_zip {a b : Addr} {ds es : List D} (h : LsAt K bor F H a ds) (h2 : LsAt K bor F H b es) : Wk K (Itz K a b) (zipD ds es) (Pk bor F H) := by
  obtain ⟨vs, k⟩ := h.ls
  obtain ⟨ws, k2⟩ := h2.ls
  refine ⟨fun i d F' H' hd p => ?_, fun F' H' p => ?_⟩
  · obtain ⟨q, r⟩ := k F' H' p
    obtain ⟨q2, r2⟩ := k2 F' H' p
    obtain ⟨dx, dy, hdx, hdy, rfl⟩ := zip_get hd
    obtain ⟨x, hx, rx⟩ := r.get hdx
    obtain ⟨y, hy, ry⟩ := r2.get hdy
    refine ⟨⟨vs, ws, x, y, q, q2, hx, hy⟩, fun v H3 ⟨T, x', y', ev, hT, eH, h1, h2⟩ => ?_⟩
    have e1 := h1 vs q
    have e2 := h2 ws q2
    rw [hx] at e1; rw [hy] at e2
    cases e1; cases e2
    subst ev eH
    exact fresh_pair p.sub.2 hT rx ry
  · obtain ⟨q, r⟩ := k F' H' p
    obtain ⟨q2, r2⟩ := k2 F' H' p
    refine ⟨vs, ws, q, q2, ?_⟩
    have l1 := r.length
    have l2 := r2.length
    unfold zipD
    rw [List.length_zipWith]
    omega
theorem wk_zipT {a b : Addr} {ds es : List D} (h : TpAt K bor F H a ds) (h2 : TpAt K bor F H b es) : Wk K (RZ.ItzT K a b) (zipD ds es) (Pk bor F H) := by
  obtain ⟨vs, k⟩ := h.ls
  obtain ⟨ws, k2⟩ := h2.ls
  refine ⟨fun i d F' H' hd p => ?_, fun F' H' p => ?_⟩
  · obtain ⟨q, r⟩ := k F' H' p
    obtain ⟨q2, r2⟩ := k2 F' H' p
    obtain ⟨dx, dy, hdx, hdy, rfl⟩ := zip_get hd
    obtain ⟨x, hx, rx⟩ := r.get hdx
    obtain ⟨y, hy, ry⟩ := r2.get hdy
    refine ⟨⟨vs, ws, x, y, q, q2, hx, hy⟩, fun v H3 ⟨T, x', y', ev, hT, eH, h1, h2⟩ => ?_⟩
    have e1 := h1 vs q
    have e2 := h2 ws q2
    rw [hx] at e1; rw [hy] at e2
    cases e1; cases e2
    subst ev eH
    exact fresh_pair p.sub.2 hT rx ry
  · obtain ⟨q, r⟩ := k F' H' p
    obtain ⟨q2, r2⟩ := k2 F' H' p
    refine ⟨vs, ws, q, q2, ?_⟩
    have l1 := r.length
    have l2 := r2.length
    unfold zipD
    rw [List.length_zipWith]
    omega
theorem enum_get : ∀ {xs : List D} {n i : Nat} {d : D}, (enumD n xs)[i]? = some d → ∃ x, xs[i]? = some x ∧ d = .tuple [.int ((n + i : Nat) : Int), x]
  | [], n, i, d, h => by simp [enumD] at h
  | x :: xs, n, 0, d, h => by
    simp only [enumD, List.getElem?_cons_zero] at h
    cases h
    exact ⟨x, rfl, rfl⟩
  | x :: xs, n, i + 1, d, h => by
    simp only [enumD, List.getElem?_cons_succ] at h
    obtain ⟨y, h1, h2⟩ := enum_get h
    refine ⟨y, by simpa using h1, ?_⟩
    rw [h2, Nat.add_assoc, Nat.add_comm 1 i]
theorem enum_len : ∀ (xs : List D) (n : Nat), (enumD n xs).length = xs.length
  | [], _ => rfl
  | x :: xs, n => by rw [enumD, List.length_cons, List.length_cons, enum_len xs]
theorem wk_enum {a : Addr} {ds : List D} (h : LsAt K bor F H a ds) : Wk K (Ite K a) (enumD 0 ds) (Pk bor F H) := by
  obtain ⟨vs, k⟩ := h.ls
  refine ⟨fun i d F' H' hd p => ?_, fun F' H' p => ?_⟩
  · obtain ⟨q, r⟩ := k F' H' p
    obtain ⟨dx, hdx, rfl⟩ := enum_get hd
    obtain ⟨x, hx, rx⟩ := r.get hdx
    refine ⟨⟨vs, x, q, hx⟩, fun v H3 ⟨T, x', ev, hT, eH, h1⟩ => ?_⟩
    have e1 := h1 vs q
    rw [hx] at e1
    cases e1
    subst ev eH
    rw [Nat.zero_add]
    exact fresh_pair p.sub.2 hT (.int _) rx
  · obtain ⟨q, r⟩ := k F' H' p
    exact ⟨vs, q, by rw [enum_len]; exact Nat.le_of_eq r.length⟩
theorem wk_enumT {a : Addr} {ds : List D} (h : TpAt K bor F H a ds) : Wk K (IteT K a) (enumD 0 ds) (Pk bor F H) := by
  obtain ⟨vs, k⟩ := h.ls
  refine ⟨fun i d F' H' hd p => ?_, fun F' H' p => ?_⟩
  · obtain ⟨q, r⟩ := k F' H' p
    obtain ⟨dx, hdx, rfl⟩ := enum_get hd
    obtain ⟨x, hx, rx⟩ := r.get hdx
    refine ⟨⟨vs, x, q, hx⟩, fun v H3 ⟨T, x', ev, hT, eH, h1⟩ => ?_⟩
    have e1 := h1 vs q
    rw [hx] at e1
    cases e1
    subst ev eH
    rw [Nat.zero_add]
    exact fresh_pair p.sub.2 hT (.int _) rx
  · obtain ⟨q, r⟩ := k F' H' p
    exact ⟨vs, q, by rw [enum_len]; exact Nat.le_of_eq r.length⟩
theorem wk_range (lo : Int) (n : Nat) : Wk K (Itr lo n) (rangeD lo n) (Pk bor F H) := by
  refine ⟨fun i d F' H' hd p => ?_, fun F' H' p => ?_⟩
  · unfold rangeD at hd
    rw [List.getElem?_map] at hd
    by_cases hi : i < n
    · rw [List.getElem?_range hi] at hd
      cases hd
      refine ⟨hi, fun x H3 ⟨e1, e2⟩ => ?_⟩
      subst e1 e2
      exact ⟨F', .refl p.sub.2, .int _⟩
    · rw [List.getElem?_eq_none (by rw [List.length_range]; omega)] at hd
      cases hd
  · show n ≤ (rangeD lo n).length
    unfold rangeD
    rw [List.length_map, List.length_range]
    exact Nat.le_refl _
theorem wk_str (z : Str) : Wk K (Its z) (z.cps.toList.map fun c => .str ⟨#[c]⟩) (Pk bor F H) := by
  refine ⟨fun i d F' H' hd p => ?_, fun F' H' p => ?_⟩
  · rw [List.getElem?_map] at hd
    cases h : z.cps.toList[i]? with
    | none => rw [h] at hd; cases hd
    | some c =>
      rw [h] at hd
      cases hd
      have hi : i < z.cps.size := by
        have := (List.getElem?_eq_some_iff.mp h).1
        simpa using this
      refine ⟨hi, fun x H3 ⟨e1, c', e2, e3⟩ => ?_⟩
      subst e1 e3
      have e4 : z.cps.toList[i]? = some c' := by rw [Array.getElem?_toList]; exact e2
      rw [h] at e4
      cases e4
      exact ⟨F', .refl p.sub.2, .str _⟩
  · show z.cps.size ≤ _
    rw [List.length_map, Array.length_toList]
    exact Nat.le_refl _
end
section
variable {X : Cx} {F0 H0 : Hp} {ea : Ea} {W : WD} {bor : Bool} {x a b c tgx : Expr} {xa xb xc : Env → R D} {pos : Pos}
theorem pi_dat (ha : PE X a (rdV X.K F0 H0 ea W bor xa)) : PI X tgx a (rdI X.K F0 H0 ea W bor fun env => (xa env).bind itemsD) := by
  refine ⟨fun pins s σ H R' I ⟨F, env, r, q⟩ => ?_⟩
  dsimp only at q
  cases h : xa env with
  | no => rw [h] at q; exact q.elim
  | ex cn =>
    rw [h] at q
    refine (pi_list (tg := tgx) ha).run pins s σ H R' I ⟨F, env, r, ?_⟩
    rw [h]
    exact q
  | ok d =>
    rw [h] at q
    have q : AnsW F H (itemsD d) _ _ := q
    cases d with
    | list ds =>
      refine (pi_list (tg := tgx) ha).run pins s σ H R' I ⟨F, env, r, ?_⟩
      rw [h]
      intro F1 H1 e1 v rv
      obtain ⟨p, rfl, k⟩ := Rb.list e1.sub rv
      obtain ⟨vs, k2⟩ := k.ls
      exact ⟨p, rfl, ⟨vs, (k2 F1 H1 (Pk.refl e1.sub)).1⟩, q F1 H1 e1 _ (wk_list k)⟩
    | tuple ds =>
      refine (pi_tup (tg := tgx) ha).run pins s σ H R' I ⟨F, env, r, ?_⟩
      rw [h]
      intro F1 H1 e1 v rv
      obtain ⟨p, rfl, k⟩ := Rb.tuple e1.sub rv
      obtain ⟨vs, k2⟩ := k.ls
      exact ⟨p, rfl, ⟨vs, (k2 F1 H1 (Pk.refl e1.sub)).1⟩, q F1 H1 e1 _ (wk_tup k)⟩
    | str z =>
      refine (pi_str (tg := tgx) ha).run pins s σ H R' I ⟨F, env, r, ?_⟩
      rw [h]
      intro F1 H1 e1 v rv
      cases rv.b.str
      exact ⟨z, rfl, q F1 H1 e1 _ (wk_str z)⟩
    | _ => exact q.elim
theorem pi_zipD {elts : List Expr} {kk : Nat} {tpos p : Pos} (hg : Gl X "zip") (hm : X.mg "zip" = none) (hs : shp a = true) (hs2 : shp b = true) (ha : PE X a (rdV X.K F0 H0 ea W bor xa)) (hb : PE X b (rdV X.K F0 H0 ea W bor xb)) :
    PI X (.Tuple elts kk tpos) (.Call (.Name "zip" p) [a, b] [] pos) (rdI X.K F0 H0 ea W bor fun env => (xa env).bind fun u => (xb env).bind fun v => zipR u v) :=
  PIi (RZ.pi_zipA hg hm (pa_cons ha (pa_cons hb pa_nil (shp_star hs2 _)) (shp_star hs _)) (shp_star hs _) (backTo_any (starOk fun y hy => by
    rcases List.mem_singleton.mp hy with rfl; exact hs2))) fun σ H R' ⟨F, env, r, q⟩ => ⟨F, env, r, q.bind fun u F1 H1 _ e1 q1 v1 r1 => ⟨F1, env, r.grow e1, q1.bind fun w F2 H2 _ e2 q2 v2 r2 => by
      have r1 := r1.grow e2
      unfold zipR at q2
      split at q2
      · obtain ⟨p1, rfl, k1⟩ := Rb.list e2.sub r1
        obtain ⟨p2, rfl, k2⟩ := Rb.list e2.sub r2
        obtain ⟨vs, h1⟩ := id k1.ls
        obtain ⟨ws, h2⟩ := id k2.ls
        exact ⟨p1, p2, vs, ws, rfl, .inl ⟨(h1 _ _ (Pk.refl e2.sub)).1, (h2 _ _ (Pk.refl e2.sub)).1, AnsW.here e2.sub q2 _ (wk_zip k1 k2)⟩⟩
      · obtain ⟨p1, rfl, k1⟩ := Rb.tuple e2.sub r1
        obtain ⟨p2, rfl, k2⟩ := Rb.tuple e2.sub r2
        obtain ⟨vs, h1⟩ := id k1.ls
        obtain ⟨ws, h2⟩ := id k2.ls
        exact ⟨p1, p2, vs, ws, rfl, .inr ⟨(h1 _ _ (Pk.refl e2.sub)).1, (h2 _ _ (Pk.refl e2.sub)).1, AnsW.here e2.sub q2 _ (wk_zipT k1 k2)⟩⟩
      · exact q2.elim⟩⟩
theorem pi_enuD {elts : List Expr} {kk : Nat} {tpos p : Pos} (hg : Gl X "enumerate") (hm : X.mg "enumerate" = none) (hs : shp a = true) (ha : PE X a (rdV X.K F0 H0 ea W bor xa)) :
    PI X (.Tuple elts kk tpos) (.Call (.Name "enumerate" p) [a] [] pos) (rdI X.K F0 H0 ea W bor fun env => (xa env).bind fun u => (sq u).bind fun xs => .ok (enumD 0 xs)) :=
  PIi (pi_enumA hg hm (pa_cons ha pa_nil (shp_star hs _)) (shp_star hs _)) fun σ H R' ⟨F, env, r, q⟩ => ⟨F, env, r, q.bind fun u F1 H1 _ e1 q1 v1 r1 => by
      cases u with
      | list ds =>
        obtain ⟨p1, rfl, k1⟩ := Rb.list e1.sub r1
        obtain ⟨vs, h1⟩ := id k1.ls
        exact ⟨p1, vs, rfl, .inl ⟨(h1 _ _ (Pk.refl e1.sub)).1, AnsW.here e1.sub q1 _ (wk_enum k1)⟩⟩
      | tuple ds =>
        obtain ⟨p1, rfl, k1⟩ := Rb.tuple e1.sub r1
        obtain ⟨vs, h1⟩ := id k1.ls
        exact ⟨p1, vs, rfl, .inr ⟨(h1 _ _ (Pk.refl e1.sub)).1, AnsW.here e1.sub q1 _ (wk_enumT k1)⟩⟩
      | _ => exact q1.elim⟩
theorem rng_of {u v : D} {xs : List D} (h : rng u v = .ok xs) : ∃ i j, u = .int i ∧ v = .int j ∧ (-(2 ^ 62) ≤ i ∧ i < 2 ^ 62 ∧ -(2 ^ 62) ≤ j ∧ j < 2 ^ 62) ∧ xs = rangeD i (j - i).toNat := by
  unfold rng at h
  split at h
  · split at h
    · rename_i hz
      simp only [Bool.and_eq_true, decide_eq_true_eq] at hz
      obtain ⟨⟨⟨h1, h2⟩, h3⟩, h4⟩ := hz
      cases h
      exact ⟨_, _, rfl, rfl, ⟨h1, h2, h3, h4⟩, rfl⟩
    · cases h
  · cases h
theorem noX_rng (u v : D) : NoX (rng u v) := by unfold rng; split <;> (first | exact noX_ok | exact noX_no | exact noX_if noX_ok noX_no | exact noX_ofO)
theorem pi_rg1 {p : Pos} (hg : Gl X "range") (hm : X.mg "range" = none) (hs : shp a = true) (ha : PE X a (rdV X.K F0 H0 ea W false xa)) :
    PI X tgx (.Call (.Name "range" p) [a] [] pos) (rdI X.K F0 H0 ea W bor fun env => (xa env).bind fun u => rng (.int 0) u) :=
  PIi (pi_range1 hg hm (pa_cons ha pa_nil (shp_star hs _)) (shp_star hs _)) fun σ H R' ⟨F, env, r, q⟩ => ⟨F, env, r, q.bind fun u F1 H1 _ e1 q1 v1 r1 => by
      cases h : rng (.int 0) u with
      | no => rw [h] at q1; exact q1.elim
      | ex c => exact absurd h (noX_rng _ _ c)
      | ok xs =>
        rw [h] at q1
        obtain ⟨i, j, ei, ej, ⟨h1, h2, h3, h4⟩, rfl⟩ := rng_of h
        cases ei
        subst ej
        cases r1.b.int
        refine ⟨j, rfl, h3, h4, ?_⟩
        have := AnsW.here e1.sub q1 _ (wk_range 0 (j - 0).toNat)
        rw [Int.sub_zero] at this
        exact this⟩
theorem pi_rg2 {p : Pos} (hg : Gl X "range") (hm : X.mg "range" = none) (hs : shp a = true) (hs2 : shp b = true) (ha : PE X a (rdV X.K F0 H0 ea W false xa)) (hb : PE X b (rdV X.K F0 H0 ea W false xb)) :
    PI X tgx (.Call (.Name "range" p) [a, b] [] pos) (rdI X.K F0 H0 ea W bor fun env => (xa env).bind fun u => (xb env).bind fun v => rng u v) :=
  PIi (pi_range2 hg hm (pa_cons ha (pa_cons hb pa_nil (shp_star hs2 _)) (shp_star hs _)) (by rw [shp_star hs, shp_star hs2]; rfl) (by rw [shp_star hs2]; rfl)) fun σ H R' ⟨F, env, r, q⟩ => ⟨F, env, r, q.bind fun u F1 H1 _ e1 q1 v1 r1 => ⟨F1, env, r.grow e1, q1.bind fun v F2 H2 _ e2 q2 v2 r2 => by
      cases h : rng u v with
      | no => rw [h] at q2; exact q2.elim
      | ex c => exact absurd h (noX_rng _ _ c)
      | ok xs =>
        rw [h] at q2
        obtain ⟨i, j, ei, ej, hb, rfl⟩ := rng_of h
        subst ei ej
        cases r1.b.int
        cases r2.b.int
        exact ⟨i, j, rfl, hb, AnsW.here e2.sub q2 _ (wk_range i (j - i).toNat)⟩⟩⟩
end
end Fp

set_option Elab.async false
set_option linter.all false
set_option maxRecDepth 100000
set_option maxHeartbeats 2000000
/-! Comprehensions. -/
namespace Fp
open PySem PySem.Spec PyProof.Rows L2
abbrev WF : WD := fun _ _ _ => False
theorem lcGo_cons {f : D → R (Option D)} {x : D} {xs tot : List D} (h : lcGo f (x :: xs) = .ok tot) : ∃ r, lcGo f xs = .ok r ∧ ((f x = .ok none ∧ tot = r) ∨ ∃ y, f x = .ok (some y) ∧ tot = y :: r) := by
  simp only [lcGo] at h
  cases e : f x with
  | no => rw [e] at h; cases h
  | ex c => rw [e] at h; cases h
  | ok o =>
    rw [e] at h
    cases o with
    | none => exact ⟨tot, h, .inl ⟨rfl, rfl⟩⟩
    | some y =>
      dsimp only at h
      cases e2 : lcGo f xs with
      | ok r =>
        rw [e2] at h
        cases h
        exact ⟨r, rfl, .inr ⟨y, rfl, rfl⟩⟩
      | ex c => rw [e2] at h; cases h
      | no => rw [e2] at h; cases h
theorem lcGo_ex {f : D → R (Option D)} {c : Str} : ∀ xs, lcGo f xs ≠ .ex c
  | [], h => by cases h
  | x :: xs, h => by
    simp only [lcGo] at h
    split at h
    · split at h <;> cases h
    · exact lcGo_ex xs h
    · cases h
theorem lcGo2_cons {f : D → R (List D)} {x : D} {xs tot : List D} (h : lcGo2 f (x :: xs) = .ok tot) : ∃ ys r, lcGo2 f xs = .ok r ∧ f x = .ok ys ∧ tot = ys ++ r := by
  simp only [lcGo2] at h
  cases e : f x with
  | no => rw [e] at h; cases h
  | ex c => rw [e] at h; cases h
  | ok ys =>
    rw [e] at h
    dsimp only at h
    cases e2 : lcGo2 f xs with
    | ok r =>
      rw [e2] at h
      cases h
      exact ⟨ys, r, rfl, rfl, rfl⟩
    | ex c => rw [e2] at h; cases h
    | no => rw [e2] at h; cases h
theorem lcGo2_ex {f : D → R (List D)} {c : Str} : ∀ xs, lcGo2 f xs ≠ .ex c
  | [], h => by cases h
  | x :: xs, h => by
    simp only [lcGo2] at h
    split at h
    · split at h <;> cases h
    · cases h
section
variable {K : PySem.W.Frag} {F H F1 H1 F2 H2 : Hp}
/-- the new list changes; nothing that was there does -/
theorem Ext.mut {D : Addr} {o : HO} (e : Ext F H F1 H1) (hD : H D = none) (hF : F1 D = none) : Ext F H F1 (upd H1 D o) := by
  refine ⟨e.ff, fun b u q => ?_, fun b u q => ?_, e.new⟩
  · rw [upd_ne (ne_of_none q hD)]; exact e.hh b u q
  · rw [upd_ne (ne_of_none q hF)]; exact e.sub b u q
theorem ownP_map {N : List Str} {own : List Nat} : (ownP N own).map (·.2) = own := by
  unfold ownP
  rw [List.map_map]
  exact List.map_id own
/-- the comprehension's list so far -/
structure Acc (K : PySem.W.Frag) (F1 H1 : Hp) (D : Addr) (ys : List Fp.D) (F' H' : Hp) : Prop where
  fr : F' D = none
  at_ : ∃ acc, H' D = some (.lst acc) ∧ RpAll K F' acc ys
  ext : Ext F1 H1 F' H'
theorem Acc.grow {D : Addr} {ys : List Fp.D} (a : Acc K F H D ys F1 H1) (e : Ext F1 H1 F2 H2) : Acc K F H D ys F2 H2 := by
  obtain ⟨acc, h1, h2⟩ := a.at_
  exact ⟨e.keep h1 a.fr, ⟨acc, e.hh _ _ h1, h2.mono e.ff⟩, a.ext.trans e⟩
theorem Acc.start {D : Addr} (s : Same F H) (hD : H D = none) : Acc K F H D [] F (upd H D (.lst [])) :=
  ⟨s.free hD, ⟨[], upd_same, .nil⟩, (Ext.refl s).loose hD⟩
theorem Acc.add {D : Addr} {ys : List Fp.D} {y : Fp.D} {v : V} (a : Acc K F H D ys F1 H1) (hD : H D = none) (r : Rp K F1 v y) : ∃ acc, H1 D = some (.lst acc) ∧ acc.length = ys.length ∧ Acc K F H D (ys ++ [y]) F1 (upd H1 D (.lst (acc ++ [v]))) := by
  obtain ⟨acc, h1, h2⟩ := a.at_
  exact ⟨acc, h1, h2.length, a.fr, ⟨acc ++ [v], upd_same, h2.append (.cons r .nil)⟩, a.ext.mut hD a.fr⟩
end
section
variable {X : Cx} {F0 H0 : Hp} {ea : Ea} {W : WD} {elt tgx iterx : Expr} {ifs : List Expr} {scope : Scope} {own : List Nat} {pos : Pos} {tg : Tg} {xi : Fp.Env → R (List D)} {xt : Fp.Env → R Bool} {xe : Fp.Env → R D}
/-- what a turn makes of an item -/
def lcF (own : List Nat) (tg : Tg) (xt : Fp.Env → R Bool) (xe : Fp.Env → R D) (env : Fp.Env) : D → R (Option D) :=
  fun x => (asg tg x (wipeE env own)).bind fun env' => (xt env').bind fun k => if k = true then (xe env').bind fun y => .ok (some y) else .ok none
theorem lcF_ok {env : Fp.Env} {x : D} {o : Option D} (h : lcF own tg xt xe env x = .ok o) : ∃ env', asg tg x (wipeE env own) = .ok env' ∧ ((xt env' = .ok false ∧ o = none) ∨ ∃ y, xt env' = .ok true ∧ xe env' = .ok y ∧ o = some y) := by
  unfold lcF at h
  cases e : asg tg x (wipeE env own) with
  | no => rw [e] at h; cases h
  | ex c => rw [e] at h; cases h
  | ok env' =>
    rw [e, R.bind_ok] at h
    refine ⟨env', rfl, ?_⟩
    cases e2 : xt env' with
    | no => rw [e2] at h; cases h
    | ex c => rw [e2] at h; cases h
    | ok k =>
      rw [e2, R.bind_ok] at h
      cases k with
      | false => cases h; exact .inl ⟨rfl, rfl⟩
      | true =>
        rw [if_pos rfl] at h
        cases e3 : xe env' with
        | no => rw [e3] at h; cases h
        | ex c => rw [e3] at h; cases h
        | ok y => rw [e3] at h; cases h; exact .inr ⟨y, rfl, rfl, rfl⟩
theorem lc_imp {N : List Str} (hsub : ∀ i ∈ tgv tg, i ∈ own) : ∀ σ H Q, rdG X.K F0 H0 ea W (fun env => (xi env).bind fun xs => (lcGo (lcF own tg xt xe env) xs).bind fun ys => if ys.length ≤ 16777216 then .ok (.list ys) else .no) σ H Q →
    tLc (rdI X.K F0 H0 ea W true xi) (rdP X.K F0 H0 ea tg) (rdT X.K F0 H0 ea WF xt) (rdV X.K F0 H0 ea WF false xe) ((ownP N own).map (·.2)) σ H Q := by
  intro σ H Q ⟨F, env, r, q⟩
  refine ⟨F, env, r, q.bind fun xs F1 H1 _ e1 q1 J wk => ?_⟩
  rw [ownP_map]
  intro D hD
  -- the whole is reckoned
  cases h : lcGo (lcF own tg xt xe env) xs with
  | no => rw [h] at q1; exact q1.elim
  | ex c => exact absurd h (lcGo_ex xs)
  | ok tot =>
    rw [h, R.bind_ok] at q1
    by_cases hz : tot.length ≤ 16777216
    · rw [if_pos hz] at q1
      have hD0 : H D = none := e1.hh.free hD
      refine ⟨fun i m Hh => m = xs.length - i ∧ i ≤ xs.length ∧ ∃ F' ys rest, Acc X.K F1 H1 D ys F' Hh ∧ lcGo (lcF own tg xt xe env) (xs.drop i) = .ok rest ∧ ys ++ rest = tot,
        ⟨xs.length, by simp, Nat.zero_le _, F1, [], tot, .start e1.sub hD, by rw [List.drop_zero]; exact h, rfl⟩, ?_⟩
      rintro i m Hh ⟨rfl, hi, F', ys, rest, ac, hrest, htot⟩
      have pk : Pk true F1 H1 F' Hh := ac.ext
      by_cases hlt : i < xs.length
      · have hd : xs.drop i = xs[i] :: xs.drop (i + 1) := List.drop_eq_getElem_cons hlt
        rw [hd] at hrest
        obtain ⟨rest', hr', hcase⟩ := lcGo_cons hrest
        obtain ⟨g1, g2⟩ := wk.go i xs[i] F' Hh (List.getElem?_eq_getElem hlt) pk
        refine .inr ⟨g1, fun H' => ∃ F' ys rest, Acc X.K F1 H1 D ys F' H' ∧ lcGo (lcF own tg xt xe env) (xs.drop (i + 1)) = .ok rest ∧ ys ++ rest = tot,
          fun H' p => ⟨xs.length - (i + 1), by omega, rfl, hlt, p⟩, fun x H3 hy => ?_⟩
        obtain ⟨F3, e3, rx⟩ := g2 x H3 hy
        have hf : ∃ o, lcF own tg xt xe env xs[i] = .ok o := by
          rcases hcase with ⟨h1, _⟩ | ⟨y, h1, _⟩
          · exact ⟨_, h1⟩
          · exact ⟨_, h1⟩
        obtain ⟨o, hf⟩ := hf
        obtain ⟨env', ha, hk⟩ := lcF_ok hf
        have ac3 := ac.grow e3
        have r3 : Rel X.K F0 H0 ea (wipeE env own) (L2.wipe σ own) F3 H3 := ((r.grow e1).grow ac3.ext).wipe own
        refine ⟨F3, wipeE env own, xs[i], env', r3, rx, ha, fun σ' r' hw _ => ⟨?_, F3, env', r', ?_⟩⟩
        · rw [wipe_sub hsub hw]; exact wipe_wipe
        · rcases hk with ⟨hk, ho⟩ | ⟨y, hk, hyy, ho⟩
          · rw [hk]
            refine fun F4 H4 e4 => ?_
            show ite (_ = true) _ _; rw [if_neg Bool.false_ne_true]
            refine ⟨F4, ys, rest, ac3.grow e4, ?_, htot⟩
            rcases hcase with ⟨h1, h2⟩ | ⟨y, h1, _⟩
            · rw [h2]; exact hr'
            · rw [h1] at hf; cases hf; cases ho
          · rw [hk]
            refine fun F4 H4 e4 => ?_
            show ite (_ = true) _ _; rw [if_pos rfl]
            refine ⟨F4, env', r'.grow e4, ?_⟩
            rw [hyy]
            intro F5 H5 e5 v rv
            have rv : Rp X.K F5 v y := rv
            have ac5 := (ac3.grow e4).grow e5
            obtain ⟨acc, a1, a2, a3⟩ := ac5.add hD rv
            rcases hcase with ⟨h1, h2⟩ | ⟨y', h1, h2⟩
            · rw [h1] at hf; cases hf; cases ho
            · rw [h1] at hf; cases hf; cases ho
              refine ⟨acc, a1, ?_, F5, ys ++ [y], rest', a3, hr', ?_⟩
              · rw [sz_eq, a2]
                have := congrArg List.length htot
                rw [h2, List.length_append, List.length_cons] at this
                omega
              · rw [List.append_assoc]
                show ys ++ (_ :: rest') = tot
                rw [← h2]; exact htot
      · have e : i = xs.length := by omega
        subst e
        rw [List.drop_eq_nil_of_le (Nat.le_refl _)] at hrest
        cases hrest
        rw [List.append_nil] at htot
        subst htot
        obtain ⟨acc, a1, a2⟩ := ac.at_
        exact .inl ⟨wk.stop F' Hh pk, (q1 F' Hh ac.ext).2 ys D acc rfl hD0 a1 ac.fr a2⟩
    · rw [if_neg hz] at q1; exact q1.elim
theorem pe_lcD (hc : X.calm = true) (hN : X.N.Nodup) (ok : blkC X.N X.env.scope scope (ownP X.N own) = true) (hsub : ∀ i ∈ tgv tg, i ∈ own) (hsx : shp iterx = true)
    (hi : PI X tgx iterx (rdI X.K F0 H0 ea W true xi))
    (hg : ∀ (s : Shared) (H : Hp) (C : Addr) (cl : List (Str × Addr)) (fp : List Addr), PG (X.blk s H scope (compEnvC scope cl C X.env) fp) tgx (rdP X.K F0 H0 ea tg))
    (ht : ∀ (s : Shared) (H : Hp) (C : Addr) (cl : List (Str × Addr)) (fp : List Addr), PTs (X.blk s H scope (compEnvC scope cl C X.env) fp) ifs (rdT X.K F0 H0 ea WF xt))
    (he : ∀ (s : Shared) (H : Hp) (C : Addr) (cl : List (Str × Addr)) (fp : List Addr), PE (X.blk s H scope (compEnvC scope cl C X.env) fp) elt (rdV X.K F0 H0 ea WF false xe)) :
    PE X (.ListComp elt [⟨tgx, iterx, ifs, 0⟩] scope pos) (rdG X.K F0 H0 ea W fun env => (xi env).bind fun xs => (lcGo (lcF own tg xt xe env) xs).bind fun ys => if ys.length ≤ 16777216 then .ok (.list ys) else .no) :=
  PEi (pe_lc hc hN hi (blkOk_by ok) hg ht he (shp_fold hsx)) (lc_imp hsub)
theorem set_lcD {i : Nat} {y : Str} {py spos : Pos} (hy : X.N[i]? = some y) (hyl : X.env.scope.names.lookup y = some .local) (hsw : swapsWith (.ListComp elt [⟨tgx, iterx, ifs, 0⟩] scope pos) (some (.Name y py)) spos.line X.env = pure true) (hc : X.calm = true) (hN : X.N.Nodup) (ok : blkC X.N X.env.scope scope (ownP X.N own) = true) (hsub : ∀ i ∈ tgv tg, i ∈ own) (hsx : shp iterx = true)
    (hi : PI X tgx iterx (rdI X.K F0 H0 ea W true xi))
    (hg : ∀ (s : Shared) (H : Hp) (C : Addr) (cl : List (Str × Addr)) (fp : List Addr), PG (X.blk s H scope (compEnvC scope cl C X.env) fp) tgx (rdP X.K F0 H0 ea tg))
    (ht : ∀ (s : Shared) (H : Hp) (C : Addr) (cl : List (Str × Addr)) (fp : List Addr), PTs (X.blk s H scope (compEnvC scope cl C X.env) fp) ifs (rdT X.K F0 H0 ea WF xt))
    (he : ∀ (s : Shared) (H : Hp) (C : Addr) (cl : List (Str × Addr)) (fp : List Addr), PE (X.blk s H scope (compEnvC scope cl C X.env) fp) elt (rdV X.K F0 H0 ea WF false xe)) :
    PS X (.Assign [.Name y py] (.ListComp elt [⟨tgx, iterx, ifs, 0⟩] scope pos) spos)
      (tAsg (rdG X.K F0 H0 ea W fun env => (xi env).bind fun xs => (lcGo (lcF own tg xt xe env) xs).bind fun ys => if ys.length ≤ 16777216 then .ok (.list ys) else .no) (gName i)) := by
  have h := ps_setLc hc hN hy hyl hsw hi (blkOk_by ok) hg ht he (shp_fold hsx)
  exact ⟨fun pins s σ H D I q => h.run pins s σ H D I (lc_imp hsub σ H _ q)⟩
/-! ### two clauses -/
/-- a state of a block, where the new list has changed -/
theorem Rel.shift {K : PySem.W.Frag} {F H F1 H1 F2 H2 F3 H3 : Hp} {env env' : Fp.Env} {σ σ' : L2.St} (r : Rel K F0 H0 ea env σ F H) (r' : Rel K F0 H0 ea env' σ' F1 H1) (o : OwnSub env' σ' env σ) (e1 : Ext F H F1 H1) (e2 : Ext F H F2 H2) (ff : Same F1 F2) :
    Rel K F0 H0 ea env' σ' F2 H2 := by
  refine ⟨r.ext.trans e2, r'.len, fun i s x h1 h2 => ?_, r'.apart⟩
  have q := r'.slot i s x h1 h2
  cases s with
  | un => trivial
  | exc c => exact q
  | val d =>
    obtain ⟨v, h1, h2⟩ := q
    exact ⟨v, h1, h2.mono ff⟩
  | own d =>
    obtain ⟨a, vs, ds, q1, q2, q3, q4, q5, q6⟩ := q
    subst q1
    obtain ⟨⟨d', o1⟩, o2⟩ := o i a ⟨d, h1⟩ h2
    obtain ⟨x2, w1, a', vs', ds', w2, w3, w4, w5, w6, w7⟩ := r.at o1
    subst w2
    rw [o2] at w1
    cases w1
    have : H1 a = some (.lst vs') := e1.hh _ _ w6
    rw [q5] at this
    cases this
    exact ⟨a, vs, ds, rfl, q2, e2.keep w6 w4, q4, e2.hh _ _ w6, q6.mono ff⟩
variable {tgx2 iterx2 : Expr} {ifs2 : List Expr} {tg2 : Tg} {xi2 : Fp.Env → R (List D)} {xt2 : Fp.Env → R Bool}
def lcF2 (own : List Nat) (tg : Tg) (xt : Fp.Env → R Bool) (xi2 : Fp.Env → R (List D)) (tg2 : Tg) (xt2 : Fp.Env → R Bool) (xe : Fp.Env → R D) (env : Fp.Env) : D → R (List D) :=
  fun x => (asg tg x (wipeE env own)).bind fun env' => (xt env').bind fun k => if k = true then (xi2 env').bind fun zs => lcGo (lcF (tgv tg2) tg2 xt2 xe env') zs else .ok []
theorem lcF2_ok {env : Fp.Env} {x : D} {ys : List D} (h : lcF2 own tg xt xi2 tg2 xt2 xe env x = .ok ys) : ∃ env', asg tg x (wipeE env own) = .ok env' ∧ ((xt env' = .ok false ∧ ys = []) ∨ ∃ zs, xt env' = .ok true ∧ xi2 env' = .ok zs ∧ lcGo (lcF (tgv tg2) tg2 xt2 xe env') zs = .ok ys) := by
  unfold lcF2 at h
  cases e : asg tg x (wipeE env own) with
  | no => rw [e] at h; cases h
  | ex c => rw [e] at h; cases h
  | ok env' =>
    rw [e, R.bind_ok] at h
    refine ⟨env', rfl, ?_⟩
    cases e2 : xt env' with
    | no => rw [e2] at h; cases h
    | ex c => rw [e2] at h; cases h
    | ok k =>
      rw [e2, R.bind_ok] at h
      cases k with
      | false => cases h; exact .inl ⟨rfl, rfl⟩
      | true =>
        rw [if_pos rfl] at h
        cases e3 : xi2 env' with
        | no => rw [e3] at h; cases h
        | ex c => rw [e3] at h; cases h
        | ok zs => rw [e3] at h; exact .inr ⟨zs, rfl, rfl, h⟩
theorem lc2_imp {N : List Str} (hsub : ∀ i ∈ tgv tg, i ∈ own) (hsub2 : ∀ i ∈ tgv tg2, i ∈ own) : ∀ σ H Q, rdG X.K F0 H0 ea W (fun env => (xi env).bind fun xs => (lcGo2 (lcF2 own tg xt xi2 tg2 xt2 xe env) xs).bind fun ys => if ys.length ≤ 16777216 then .ok (.list ys) else .no) σ H Q →
    tLc2 (rdI X.K F0 H0 ea W true xi) (rdP X.K F0 H0 ea tg) (rdT X.K F0 H0 ea WF xt) (rdI X.K F0 H0 ea WF false xi2) (rdP X.K F0 H0 ea tg2) (rdT X.K F0 H0 ea WF xt2) (rdV X.K F0 H0 ea WF false xe) ((ownP N own).map (·.2)) (tgv tg2) σ H Q := by
  intro σ H Q ⟨F, env, r, q⟩
  refine ⟨F, env, r, q.bind fun xs F1 H1 _ e1 q1 J wk => ?_⟩
  rw [ownP_map]
  intro D hD
  cases h : lcGo2 (lcF2 own tg xt xi2 tg2 xt2 xe env) xs with
  | no => rw [h] at q1; exact q1.elim
  | ex c => exact absurd h (lcGo2_ex xs)
  | ok tot =>
    rw [h, R.bind_ok] at q1
    by_cases hz : tot.length ≤ 16777216
    · rw [if_pos hz] at q1
      have hD0 : H D = none := e1.hh.free hD
      refine ⟨fun i m Hh => m = xs.length - i ∧ i ≤ xs.length ∧ ∃ F' ys rest, Acc X.K F1 H1 D ys F' Hh ∧ lcGo2 (lcF2 own tg xt xi2 tg2 xt2 xe env) (xs.drop i) = .ok rest ∧ ys ++ rest = tot,
        ⟨xs.length, by simp, Nat.zero_le _, F1, [], tot, .start e1.sub hD, by rw [List.drop_zero]; exact h, rfl⟩, ?_⟩
      rintro i m Hh ⟨rfl, hi, F', ys, rest, ac, hrest, htot⟩
      have pk : Pk true F1 H1 F' Hh := ac.ext
      by_cases hlt : i < xs.length
      · have hd : xs.drop i = xs[i] :: xs.drop (i + 1) := List.drop_eq_getElem_cons hlt
        rw [hd] at hrest
        obtain ⟨zsum, rest', hr', hf, hsum⟩ := lcGo2_cons hrest
        obtain ⟨g1, g2⟩ := wk.go i xs[i] F' Hh (List.getElem?_eq_getElem hlt) pk
        refine .inr ⟨g1, fun H' => ∃ F' ys rest, Acc X.K F1 H1 D ys F' H' ∧ lcGo2 (lcF2 own tg xt xi2 tg2 xt2 xe env) (xs.drop (i + 1)) = .ok rest ∧ ys ++ rest = tot,
          fun H' p => ⟨xs.length - (i + 1), by omega, rfl, hlt, p⟩, fun x H3 hy => ?_⟩
        obtain ⟨F3, e3, rx⟩ := g2 x H3 hy
        obtain ⟨env', ha, hk⟩ := lcF2_ok hf
        have ac3 := ac.grow e3
        have rb := r.grow e1
        have rw1 := rb.wipe own
        have r3 : Rel X.K F0 H0 ea (wipeE env own) (L2.wipe σ own) F3 H3 := (rb.grow ac3.ext).wipe own
        refine ⟨F3, wipeE env own, xs[i], env', r3, rx, ha, fun σ' r' hw os' => ⟨?_, F3, env', r', ?_⟩⟩
        · rw [wipe_sub hsub hw]; exact wipe_wipe
        · rcases hk with ⟨hk, ho⟩ | ⟨zs, hk, hzs, hgo⟩
          · rw [hk]
            refine fun F4 H4 e4 => ?_
            show ite (_ = true) _ _; rw [if_neg Bool.false_ne_true]
            refine ⟨F4, ys, rest', ac3.grow e4, hr', ?_⟩
            rw [hsum, ho] at htot
            exact htot
          · rw [hk]
            refine fun F4 H4 e4 => ?_
            show ite (_ = true) _ _; rw [if_pos rfl]
            refine ⟨F4, env', r'.grow e4, ?_⟩
            rw [hzs]
            intro F5 H5 e5 J1 wk1
            have ac5 := (ac3.grow e4).grow e5
            have r5 := (r'.grow e4).grow e5
            refine ⟨fun j k Hk => k = zs.length - j ∧ j ≤ zs.length ∧ ∃ F' ys' rest1, Same F5 F' ∧ Acc X.K F1 H1 D ys' F' Hk ∧ lcGo (lcF (tgv tg2) tg2 xt2 xe env') (zs.drop j) = .ok rest1 ∧ ys' ++ rest1 = ys ++ zsum,
              ⟨zs.length, by simp, Nat.zero_le _, F5, ys, zsum, Same.refl _, ac5, by rw [List.drop_zero]; exact hgo, rfl⟩, ?_⟩
            rintro j k Hk ⟨rfl, hj, F6, ys', rest1, ff6, ac6, hr1, ht1⟩
            have pk1 : Pk false F5 H5 F6 Hk := ⟨ff6, ac6.ext.sub⟩
            by_cases hjl : j < zs.length
            · have hd1 : zs.drop j = zs[j] :: zs.drop (j + 1) := List.drop_eq_getElem_cons hjl
              rw [hd1] at hr1
              obtain ⟨rest2, hr2, hcase⟩ := lcGo_cons hr1
              obtain ⟨k1, k2⟩ := wk1.go j zs[j] F6 Hk (List.getElem?_eq_getElem hjl) pk1
              refine .inr ⟨k1, fun H' => ∃ F' ys' rest1, Same F5 F' ∧ Acc X.K F1 H1 D ys' F' H' ∧ lcGo (lcF (tgv tg2) tg2 xt2 xe env') (zs.drop (j + 1)) = .ok rest1 ∧ ys' ++ rest1 = ys ++ zsum,
                fun H' p => ⟨zs.length - (j + 1), by omega, rfl, hjl, p⟩, fun z H7 hyz => ?_⟩
              obtain ⟨F7, e7, rz⟩ := k2 z H7 hyz
              have hff : ∃ o, lcF (tgv tg2) tg2 xt2 xe env' zs[j] = .ok o := by
                rcases hcase with ⟨h1, _⟩ | ⟨y, h1, _⟩
                · exact ⟨_, h1⟩
                · exact ⟨_, h1⟩
              obtain ⟨o, hff⟩ := hff
              obtain ⟨env2, ha2, hk2⟩ := lcF_ok hff
              have ac7 := ac6.grow e7
              have r7 : Rel X.K F0 H0 ea env' σ' F7 H7 := Rel.shift (F3 := F7) (H3 := H7) rw1 r5 os' ac5.ext ac7.ext (ff6.trans e7.ff)
              refine ⟨F7, wipeE env' (tgv tg2), zs[j], env2, r7.wipe _, rz, ha2, fun σ2 r2 hw2 _ => ⟨?_, F7, env2, r2, ?_⟩⟩
              · rw [hw2]; exact wipe_wipe
              · rcases hk2 with ⟨hk2, ho2⟩ | ⟨y, hk2, hyy, ho2⟩
                · rw [hk2]
                  refine fun F8 H8 e8 => ?_
                  show ite (_ = true) _ _; rw [if_neg Bool.false_ne_true]
                  refine ⟨F8, ys', rest2, (ff6.trans e7.ff).trans e8.ff, ac7.grow e8, hr2, ?_⟩
                  rcases hcase with ⟨h1, h2⟩ | ⟨y, h1, _⟩
                  · rw [← h2]; exact ht1
                  · rw [h1] at hff; cases hff; cases ho2
                · rw [hk2]
                  refine fun F8 H8 e8 => ?_
                  show ite (_ = true) _ _; rw [if_pos rfl]
                  refine ⟨F8, env2, r2.grow e8, ?_⟩
                  rw [hyy]
                  intro F9 H9 e9 v rv
                  have rv : Rp X.K F9 v y := rv
                  have ac9 := (ac7.grow e8).grow e9
                  obtain ⟨acc, a1, a2, a3⟩ := ac9.add hD rv
                  rcases hcase with ⟨h1, h2⟩ | ⟨y', h1, h2⟩
                  · rw [h1] at hff; cases hff; cases ho2
                  · rw [h1] at hff; cases hff; cases ho2
                    refine ⟨acc, a1, ?_, F9, ys' ++ [y], rest2, ((ff6.trans e7.ff).trans e8.ff).trans e9.ff, a3, hr2, ?_⟩
                    · rw [sz_eq, a2]
                      have l1 := congrArg List.length ht1
                      have l2 := congrArg List.length htot
                      rw [h2, List.length_append, List.length_cons, List.length_append] at l1
                      rw [hsum, List.length_append, List.length_append] at l2
                      omega
                    · rw [List.append_assoc]
                      show ys' ++ (_ :: rest2) = _
                      rw [← h2]; exact ht1
            · have e : j = zs.length := by omega
              subst e
              rw [List.drop_eq_nil_of_le (Nat.le_refl _)] at hr1
              cases hr1
              rw [List.append_nil] at ht1
              subst ht1
              refine .inl ⟨wk1.stop F6 Hk pk1, F6, ys ++ zsum, rest', ac6, hr', ?_⟩
              rw [List.append_assoc, ← hsum]; exact htot
      · have e : i = xs.length := by omega
        subst e
        rw [List.drop_eq_nil_of_le (Nat.le_refl _)] at hrest
        cases hrest
        rw [List.append_nil] at htot
        subst htot
        obtain ⟨acc, a1, a2⟩ := ac.at_
        exact .inl ⟨wk.stop F' Hh pk, (q1 F' Hh ac.ext).2 ys D acc rfl hD0 a1 ac.fr a2⟩
    · rw [if_neg hz] at q1; exact q1.elim
theorem pe_lc2D (hc : X.calm = true) (hN : X.N.Nodup) (ok : blkC X.N X.env.scope scope (ownP X.N own) = true) (hsub : ∀ i ∈ tgv tg, i ∈ own) (hsub2 : ∀ i ∈ tgv tg2, i ∈ own) (hsx : shp iterx = true) (hsx2 : shp iterx2 = true)
    (hi : PI X tgx iterx (rdI X.K F0 H0 ea W true xi))
    (hg : ∀ (s : Shared) (H : Hp) (C : Addr) (cl : List (Str × Addr)) (fp : List Addr), PG (X.blk s H scope (compEnvC scope cl C X.env) fp) tgx (rdP X.K F0 H0 ea tg))
    (ht : ∀ (s : Shared) (H : Hp) (C : Addr) (cl : List (Str × Addr)) (fp : List Addr), PTs (X.blk s H scope (compEnvC scope cl C X.env) fp) ifs (rdT X.K F0 H0 ea WF xt))
    (hi2 : ∀ (s : Shared) (H : Hp) (C : Addr) (cl : List (Str × Addr)) (fp : List Addr), PI (X.blk s H scope (compEnvC scope cl C X.env) fp) tgx2 iterx2 (rdI X.K F0 H0 ea WF false xi2))
    (hg2 : ∀ (s : Shared) (H : Hp) (C : Addr) (cl : List (Str × Addr)) (fp : List Addr), PG (X.blk s H scope (compEnvC scope cl C X.env) fp) tgx2 (rdP X.K F0 H0 ea tg2))
    (ht2 : ∀ (s : Shared) (H : Hp) (C : Addr) (cl : List (Str × Addr)) (fp : List Addr), PTs (X.blk s H scope (compEnvC scope cl C X.env) fp) ifs2 (rdT X.K F0 H0 ea WF xt2))
    (he : ∀ (s : Shared) (H : Hp) (C : Addr) (cl : List (Str × Addr)) (fp : List Addr), PE (X.blk s H scope (compEnvC scope cl C X.env) fp) elt (rdV X.K F0 H0 ea WF false xe)) :
    PE X (.ListComp elt [⟨tgx, iterx, ifs, 0⟩, ⟨tgx2, iterx2, ifs2, 0⟩] scope pos)
      (rdG X.K F0 H0 ea W fun env => (xi env).bind fun xs => (lcGo2 (lcF2 own tg xt xi2 tg2 xt2 xe env) xs).bind fun ys => if ys.length ≤ 16777216 then .ok (.list ys) else .no) :=
  PEi (pe_lc2 (vs1 := tgv tg2) hc hN hi (blkOk_by ok) (by rw [ownP_map]; exact hsub2) hg ht hi2 hg2 ht2 he (shp_fold hsx) (fun _ => shp_fold hsx2)) (lc2_imp hsub hsub2)
theorem set_lc2D {i : Nat} {y : Str} {py spos : Pos} (hy : X.N[i]? = some y) (hyl : X.env.scope.names.lookup y = some .local) (hsw : swapsWith (.ListComp elt [⟨tgx, iterx, ifs, 0⟩, ⟨tgx2, iterx2, ifs2, 0⟩] scope pos) (some (.Name y py)) spos.line X.env = pure true) (hc : X.calm = true) (hN : X.N.Nodup) (ok : blkC X.N X.env.scope scope (ownP X.N own) = true) (hsub : ∀ i ∈ tgv tg, i ∈ own) (hsub2 : ∀ i ∈ tgv tg2, i ∈ own) (hsx : shp iterx = true) (hsx2 : shp iterx2 = true)
    (hi : PI X tgx iterx (rdI X.K F0 H0 ea W true xi))
    (hg : ∀ (s : Shared) (H : Hp) (C : Addr) (cl : List (Str × Addr)) (fp : List Addr), PG (X.blk s H scope (compEnvC scope cl C X.env) fp) tgx (rdP X.K F0 H0 ea tg))
    (ht : ∀ (s : Shared) (H : Hp) (C : Addr) (cl : List (Str × Addr)) (fp : List Addr), PTs (X.blk s H scope (compEnvC scope cl C X.env) fp) ifs (rdT X.K F0 H0 ea WF xt))
    (hi2 : ∀ (s : Shared) (H : Hp) (C : Addr) (cl : List (Str × Addr)) (fp : List Addr), PI (X.blk s H scope (compEnvC scope cl C X.env) fp) tgx2 iterx2 (rdI X.K F0 H0 ea WF false xi2))
    (hg2 : ∀ (s : Shared) (H : Hp) (C : Addr) (cl : List (Str × Addr)) (fp : List Addr), PG (X.blk s H scope (compEnvC scope cl C X.env) fp) tgx2 (rdP X.K F0 H0 ea tg2))
    (ht2 : ∀ (s : Shared) (H : Hp) (C : Addr) (cl : List (Str × Addr)) (fp : List Addr), PTs (X.blk s H scope (compEnvC scope cl C X.env) fp) ifs2 (rdT X.K F0 H0 ea WF xt2))
    (he : ∀ (s : Shared) (H : Hp) (C : Addr) (cl : List (Str × Addr)) (fp : List Addr), PE (X.blk s H scope (compEnvC scope cl C X.env) fp) elt (rdV X.K F0 H0 ea WF false xe)) :
    PS X (.Assign [.Name y py] (.ListComp elt [⟨tgx, iterx, ifs, 0⟩, ⟨tgx2, iterx2, ifs2, 0⟩] scope pos) spos)
      (tAsg (rdG X.K F0 H0 ea W fun env => (xi env).bind fun xs => (lcGo2 (lcF2 own tg xt xi2 tg2 xt2 xe env) xs).bind fun ys => if ys.length ≤ 16777216 then .ok (.list ys) else .no) (gName i)) := by
  have h := ps_setLc2 (vs1 := tgv tg2) hc hN hy hyl hsw hi (blkOk_by ok) (by rw [ownP_map]; exact hsub2) hg ht hi2 hg2 ht2 he (shp_fold hsx) (fun _ => shp_fold hsx2)
  exact ⟨fun pins s σ H D I q => h.run pins s σ H D I (lc2_imp hsub hsub2 σ H _ q)⟩
end
end Fp

set_option Elab.async false
set_option linter.all false
set_option maxRecDepth 100000
set_option maxHeartbeats 2000000
/-! A term's text means the term. -/
namespace Fp
open PySem PySem.Spec PyProof.Rows L2
mutual
/-- the calls' meanings are the table's -/
def E.okT (T : Nat → List D → R D) : E → Prop
  | .tup es => es.okT T
  | .lst es => es.okT T
  | .bin _ a b => a.okT T ∧ b.okT T
  | .neg a => a.okT T
  | .cmp _ a b => a.okT T ∧ b.okT T
  | .chn a b c => a.okT T ∧ b.okT T ∧ c.okT T
  | .and a b => a.okT T ∧ b.okT T
  | .or a b => a.okT T ∧ b.okT T
  | .not a => a.okT T
  | .ite c a b => c.okT T ∧ a.okT T ∧ b.okT T
  | .idx a i => a.okT T ∧ i.okT T
  | .sli a lo hi => a.okT T ∧ lo.okT T ∧ hi.okT T
  | .rev a => a.okT T
  | .call j g es => g = T j ∧ es.okT T
  | .blt _ es => es.okT T
  | .isi a _ => a.okT T
  | .isk _ a _ => a.okT T
  | .met _ a es => a.okT T ∧ es.okT T
  | .lc _ _ it cs e => it.okT T ∧ cs.okT T ∧ e.okT T
  | .lc2 _ _ it cs _ it2 cs2 e => it.okT T ∧ cs.okT T ∧ it2.okT T ∧ cs2.okT T ∧ e.okT T
  | _ => True
def Es.okT (T : Nat → List D → R D) : Es → Prop
  | .nil => True
  | .cons e es => e.okT T ∧ es.okT T
def Eo.okT (T : Nat → List D → R D) : Eo → Prop
  | .non => True
  | .som e => e.okT T
def It.okT (T : Nat → List D → R D) : It → Prop
  | .dat e => e.okT T
  | .zip a b => a.okT T ∧ b.okT T
  | .enu a => a.okT T
  | .rg1 a => a.okT T
  | .rg2 a b => a.okT T ∧ b.okT T
def Cs.okT (T : Nat → List D → R D) : Cs → Prop
  | .nil => True
  | .one e => e.okT T
end
/-- a module's constant -/
def cnsV : D → Value → Prop
  | .int i, u => RelV (.int i) u
  | .str z, u => RelV (.str z) u
  | _, _ => True
structure Wf (X : Cx) (G : Gx) (T : Nat → List D → R D) (cv : Str → Value) (bk : Bk) (ea : Ea) : Prop where
  hN : X.N = G.N
  nd : X.N.Nodup
  sc : X.env.scope = bk.sc
  st : ∀ x, bk.st x = true → Loc X.env.scope x ∧ (X.fn x = true ∨ X.env.scope.names.lookup x = some .local)
  calm : bk.hot = false → X.calm = true
  rm : Rm X
  cns : ∀ p ∈ G.cns, ∃ u, X.mg p.1 = some u ∧ cnsV p.2 u
  fre : ∀ x, G.fre.contains x = true → X.mg x = none
  fns : bk.hot = false → ∀ j, j < G.lim → ∀ x n, G.fns[j]? = some x → G.ars[j]? = some n → Callee X cv x n (T j)
  isE : bk.hot = true → G.ise = true → ∀ n c, ea.ok n → G.exs.contains c = true → ∀ {x : Str} {p p2 p3 p4 : Pos} {i : Nat}, Gl X "isinstance" → X.mg "isinstance" = none → X.N[i]? = some x → Vis X.env.scope x → okNm x = true → Gl X c → okNm c = true →
    PE X (.Call (.Name "isinstance" p) [.Name x p2, .Name c p3] [] p4) (fun σ H Q => σ[i]? = some (some (.ref ea.a)) ∧ Q (.bl (isSub n c)) H)
section
variable {X : Cx} {G : Gx} {T : Nat → List D → R D} {cv : Str → Value} {bk : Bk} {ea : Ea}
theorem lookup_rel {scope sc : Scope} {x : Str} {k : NameKind} (hk : k ≠ .free) : ∀ (l : List (Str × NameKind)), l.lookup x = some k →
    (l.map fun (n, k) => if (k == .free && sc.kind == .function && sc.names.lookup n == some .cell) then (n, NameKind.cell) else (n, k)).lookup x = some k
  | [], h => by simp at h
  | (n, k') :: r, h => by
    rw [List.lookup_cons] at h
    rw [List.map_cons]
    by_cases e : x = n
    · subst e
      simp only [beq_self_eq_true] at h
      cases h
      have h1 : (k == NameKind.free) = false := by
        cases k <;> first | rfl | exact absurd rfl hk
      simp [h1]
    · have h1 : (x == n) = false := by simpa using e
      rw [h1] at h
      have ih := lookup_rel (scope := scope) (sc := sc) hk r h
      rw [List.lookup_cons]
      have h2 : (x == (if (k' == .free && sc.kind == .function && sc.names.lookup n == some .cell) then (n, NameKind.cell) else (n, k')).1) = false := by
        split
        · exact h1
        · exact h1
      show (match (x == (if (k' == .free && sc.kind == .function && sc.names.lookup n == some .cell) then (n, NameKind.cell) else (n, k')).1) with | true => _ | false => _) = _
      rw [h2]
      exact ih
theorem Wf.blk (w : Wf X G T cv bk ea) (hb : bk.hot = false) (s : Shared) (H : Hp) (scope : Scope) (cl : List (Str × Addr)) (C : Addr) (fp : List Addr) :
    Wf (X.blk s H scope (compEnvC scope cl C X.env) fp) G T cv (blkBk bk scope) ea where
  hN := w.hN
  nd := w.nd
  sc := by show relS scope X.env.scope = relS scope bk.sc; rw [w.sc]
  st := fun x h => by
    have h : isOwn scope x = true := h
    unfold isOwn at h
    have go : ∀ k, (k = .local ∨ k = .cell) → scope.names.lookup x = some k → Loc (relS scope X.env.scope) x ∧ ((X.blk s H scope (compEnvC scope cl C X.env) fp).fn x = true ∨ (relS scope X.env.scope).names.lookup x = some .local) := fun k hk e => by
      have e2 : (relS scope X.env.scope).names.lookup x = some k := lookup_rel (scope := scope) (by rcases hk with rfl | rfl <;> intro z <;> cases z) scope.names e
      rcases hk with rfl | rfl
      · exact ⟨.inl e2, .inr e2⟩
      · refine ⟨.inr e2, .inl ?_⟩
        show (scope.names.lookup x == some .cell) = true
        rw [e]; rfl
    split at h
    · rename_i e; exact go _ (.inl rfl) e
    · rename_i e; exact go _ (.inr rfl) e
    · cases h
  calm := fun _ => w.calm hb
  rm := ⟨w.rm.room⟩
  cns := w.cns
  fre := w.fre
  fns := fun _ j hj x n hx hn => ⟨(w.fns hb j hj x n hx hn).ok⟩
  isE := fun h => by
    have h : bk.hot = true := h
    rw [hb] at h; cases h
theorem vis_ok {sc : Scope} {x : Str} (h : isVis sc x = true) : Vis sc x := by
  unfold isVis at h
  split at h
  · rename_i e; exact .inl e
  · rename_i e; exact .inr (.inl e)
  · rename_i e; exact .inr (.inr e)
  · cases h
theorem gl_ok {x : Str} (w : Wf X G T cv bk ea) (h : isGl bk.sc x = true) : Gl X x := by
  unfold isGl at h
  split at h
  · rename_i e
    show X.env.scope.names.lookup x = _
    rw [w.sc]; exact e
  · cases h
theorem nm_ok {x : Str} (h : okNm x = true) : (x == ("__debug__" : Str)) = false ∧ (x == ("__classdict__" : Str)) = false ∧ (x == ("__name__" : Str)) = false := by
  unfold okNm at h
  simp only [Bool.and_eq_true, Bool.not_eq_true'] at h
  exact ⟨h.1.1, h.1.2, h.2⟩
/-- which makes a new list -/
def mk : E → Bool
  | .lst _ => true
  | .bin _ _ _ => true
  | .sli _ _ _ => true
  | .rev _ => true
  | .blt b _ => (match b with
    | .min1 => false
    | _ => true)
  | .lc _ _ _ _ _ => true
  | .lc2 _ _ _ _ _ _ _ _ => true
  | _ => false
structure Good (X : Cx) (F0 H0 : Hp) (ea : Ea) (W : WD) (bor : Bool) (x : Expr) (m : Bool) (f : Fp.Env → R D) : Prop where
  v : PE X x (rdV X.K F0 H0 ea W bor f)
  g : bor = false → m = true → PE X x (rdG X.K F0 H0 ea W f)
  t : bor = false → PT X x (rdT X.K F0 H0 ea W fun env => (f env).bind asB)
  w : bor = false → ∀ op vs pos, x = .BoolOp op vs pos → PW X x (rdT X.K F0 H0 ea W fun env => (f env).bind asB)
variable {F0 H0 : Hp} {W : WD} {bor : Bool} {x : Expr} {f : Fp.Env → R D}
def plainT (x : Expr) : Bool := match x with
  | .UnaryOp .Not _ _ => false
  | .BoolOp _ _ _ => false
  | .IfExp _ _ _ _ => false
  | .Compare _ _ _ _ => false
  | _ => true
theorem plainT_ok {env : PySem.Env} (h : plainT x = true) : ∀ whole, isTrue x env whole = (do let v ← whole; standAt x.pos; holding [v] (truthy v)) := by
  intro whole
  cases x <;> first
    | rfl
    | (cases h; done)
    | skip
  rename_i op _ _
  cases op <;> first
    | rfl
    | (cases h; done)
theorem notBool {op : BoolOp} {vs : List Expr} {pos : Pos} (h : plainT x = true) : x ≠ .BoolOp op vs pos := fun e => by subst e; cases h
theorem Good.ofE (h : PE X x (rdV X.K F0 H0 ea W false f)) (hp : plainT x = true) : Good X F0 H0 ea W bor x false f :=
  ⟨pe_weak h, fun _ z => (by cases z), fun _ => pt_ofV h (plainT_ok hp), fun _ op vs pos e => absurd e (notBool hp)⟩
theorem Good.ofG (h : PE X x (rdG X.K F0 H0 ea W f)) (hp : plainT x = true) : Good X F0 H0 ea W bor x true f :=
  ⟨pe_ofG h, fun _ _ => h, fun _ => pt_ofV (pe_ofG h) (plainT_ok hp), fun _ op vs pos e => absurd e (notBool hp)⟩
theorem Good.ofT (h : PE X x (rdV X.K F0 H0 ea W false f)) (ht : PT X x (rdT X.K F0 H0 ea W fun env => (f env).bind asB)) (hp : ∀ op vs pos, x ≠ .BoolOp op vs pos) : Good X F0 H0 ea W bor x false f :=
  ⟨pe_weak h, fun _ z => (by cases z), fun _ => ht, fun _ op vs pos e => absurd e (hp op vs pos)⟩
theorem Good.ofW (h : PE X x (rdV X.K F0 H0 ea W false f)) (ht : PW X x (rdT X.K F0 H0 ea W fun env => (f env).bind asB)) : Good X F0 H0 ea W bor x false f :=
  ⟨pe_weak h, fun _ z => (by cases z), fun _ => ht.pt, fun _ op vs pos e => ht⟩
theorem boot_blt : ∀ b : Blt, (∃ id, bltV b = .builtin id ∧ bootBuiltins (bltNm b) = some (.builtin id)) ∨ ∃ t, bltV b = .type t ∧ bootBuiltins (bltNm b) = some (.type t)
  | .len => .inl ⟨_, rfl, by first | rfl | decide⟩
  | .all => .inl ⟨_, rfl, by first | rfl | decide⟩
  | .any => .inl ⟨_, rfl, by first | rfl | decide⟩
  | .sum => .inl ⟨_, rfl, by first | rfl | decide⟩
  | .list => .inr ⟨_, rfl, by first | rfl | decide⟩
  | .tuple => .inr ⟨_, rfl, by first | rfl | decide⟩
  | .sorted => .inl ⟨_, rfl, by first | rfl | decide⟩
  | .min1 => .inl ⟨_, rfl, by first | rfl | decide⟩
  | .max2 => .inl ⟨_, rfl, by first | rfl | decide⟩
  | .min2 => .inl ⟨_, rfl, by first | rfl | decide⟩
theorem pe_bltD {b : Blt} {es : Es} {xs : List Expr} {p pos : Pos} (hc : X.calm = true) (hr : Rm X) (hg : Gl X (bltNm b)) (hm : X.mg (bltNm b) = none) (hl : 0 < xs.length) (hs : ∀ y ∈ xs, shp y = true) (ha : PA X xs (rdA X.K F0 H0 ea W true (evEs es))) :
    PE X (.Call (.Name (bltNm b) p) xs [] pos) (tCB (rBl X.K b) (rdA X.K F0 H0 ea W true (evEs es))) := by
  cases xs with
  | nil => exact absurd hl (Nat.lt_irrefl _)
  | cons a as =>
    have h1 := shp_star (env := X.env) (hs a List.mem_cons_self) as
    have h2 : (backTo pos (starEach as X.env)).any (·.1) = false := backTo_any (starOk fun y hy => hs y (List.mem_cons_of_mem _ hy))
    have hn : bltNm b ≠ "__name__" := by cases b <;> decide
    have hd : (bltNm b == ("__debug__" : Str)) = false := by cases b <;> decide
    have hb := bld (X := X) (b := b) hc hr
    rcases boot_blt b with ⟨id, e1, e2⟩ | ⟨t, e1, e2⟩
    · rw [e1] at hb
      exact pe_callB hb hg hm e2 ha hn hd h1 h2
    · rw [e1] at hb
      exact pe_callTy hb hg hm e2 ha hn hd h1 h2
theorem evEs_len : ∀ {es : Es} {env : Fp.Env} {ds : List D}, evEs es env = .ok ds → ds.length = es.len
  | .nil, env, ds, h => by
    rw [evEs] at h; cases h; rfl
  | .cons e es, env, ds, h => by
    rw [evEs] at h
    cases h1 : evE e env with
    | ok u =>
      rw [h1, R.bind_ok] at h
      cases h2 : evEs es env with
      | ok us =>
        rw [h2, R.bind_ok] at h
        cases h
        rw [List.length_cons, evEs_len h2]
        rfl
      | ex c => rw [h2] at h; cases h
      | no => rw [h2] at h; cases h
    | ex c => rw [h1] at h; cases h
    | no => rw [h1] at h; cases h
end
end Fp

set_option Elab.async false
set_option linter.all false
set_option maxRecDepth 100000
set_option maxHeartbeats 4000000
/-! A term's text means the term: all terms. -/
namespace Fp
open PySem PySem.Spec PyProof.Rows L2
section
variable {G : Gx} {T : Nat → List D → R D} {cv : Str → Value} {F0 H0 : Hp} {ea : Ea} {X : Cx} {bk : Bk} {W : WD} {bor : Bool}
theorem nomono {F : Hp} : Same (fun _ => none) F := fun _ _ z => by cases z
theorem name_ok (w : Wf X G T cv bk ea) {i : Nat} {y : Str} (h : nameAt G bk i y = true) : X.N[i]? = some y ∧ Vis X.env.scope y ∧ okNm y = true := by
  unfold nameAt at h
  simp only [Bool.and_eq_true, decide_eq_true_eq] at h
  exact ⟨by rw [w.hN]; exact h.1.1, by rw [w.sc]; exact vis_ok h.1.2, h.2⟩
theorem s_slot (w : Wf X G T cv bk ea) {i : Nat} {x : Expr} (h : chkE G bk bor (.slot i) x = true) : Good X F0 H0 ea W bor x (mk (.slot i)) (evE (.slot i)) := by
  cases x with
  | Name y p =>
    obtain ⟨h1, h2, h3⟩ := name_ok w (by simpa [chkE] using h)
    refine Good.ofE (PEi (pe_var h1 h2 (nm_ok h3).1 (nm_ok h3).2.1) fun σ H Q ⟨F, env, r, q⟩ => ?_) rfl
    rw [evE] at q
    split at q
    · rename_i d e
      obtain ⟨v, e1, e2⟩ := r.val e
      exact ⟨v, e1, AnsW.here r.sub q v e2⟩
    · exact q.elim
  | _ => simp [chkE] at h
theorem s_bor (w : Wf X G T cv bk ea) {i : Nat} {x : Expr} (h : chkE G bk bor (.bor i) x = true) : Good X F0 H0 ea W bor x (mk (.bor i)) (evE (.bor i)) := by
  cases x with
  | Name y p =>
    simp only [chkE, Bool.and_eq_true] at h
    obtain ⟨hb, h⟩ := h
    subst hb
    obtain ⟨h1, h2, h3⟩ := name_ok w h
    refine ⟨PEi (pe_var h1 h2 (nm_ok h3).1 (nm_ok h3).2.1) fun σ H Q ⟨F, env, r, q⟩ => ?_, fun z => (by cases z), fun z => (by cases z), fun z => (by cases z)⟩
    rw [evE] at q
    split at q
    · rename_i d e
      obtain ⟨v, e1, e2⟩ := r.val e
      exact ⟨v, e1, AnsW.here r.sub q v (.inl e2)⟩
    · rename_i d e
      obtain ⟨a, vs, ds, e1, e2, e3, e4, e5, e6⟩ := r.own e
      exact ⟨.ref a, e1, AnsW.here r.sub q _ (.inr ⟨a, vs, ds, rfl, e2, e5, e6⟩)⟩
    · exact q.elim
  | _ => simp [chkE] at h
theorem s_cst {d : D} {x : Expr} (h : chkE G bk bor (.cst d) x = true) : Good X F0 H0 ea W bor x (mk (.cst d)) (evE (.cst d)) := by
  cases x with
  | Constant c k p =>
    have h : cstIs d c = true := by simpa [chkE] using h
    refine Good.ofE ?_ rfl
    have go : ∀ {v : V} {d : D}, Rp X.K (fun _ => none) v d → PE X (.Constant c k p) (tC v) → PE X (.Constant c k p) (rdV X.K F0 H0 ea W false (evE (.cst d))) := fun {v d} rv hp =>
      PEi hp fun σ H Q ⟨F, env, r, q⟩ => by
        rw [evE] at q
        exact AnsW.here r.sub q v (rv.mono nomono)
    cases d <;> cases c <;> first
      | exact go .non pe_non
      | (cases h; done)
      | skip
    · have h : (_ == _) = true := h
      rw [eq_of_beq h]; exact go (.bl _) pe_bl
    · have h := of_decide_eq_true h
      rw [h]; exact go (.int _) pe_int
    · have h := of_decide_eq_true h
      rw [h]; exact go (.str _) pe_str
  | _ => simp [chkE] at h
theorem s_glo (w : Wf X G T cv bk ea) {z : Str} {d : D} {x : Expr} (h : chkE G bk bor (.glo z d) x = true) : Good X F0 H0 ea W bor x (mk (.glo z d)) (evE (.glo z d)) := by
  cases x with
  | Name y p =>
    simp only [chkE, Bool.and_eq_true, decide_eq_true_eq] at h
    obtain ⟨⟨⟨_, h2⟩, h3⟩, h4⟩ := h
    obtain ⟨⟨y', d'⟩, hp, hq⟩ := List.any_eq_true.mp h4
    simp only [Bool.and_eq_true, decide_eq_true_eq] at hq
    obtain ⟨rfl, hq⟩ := hq
    obtain ⟨u, hu, hv⟩ := w.cns _ hp
    refine Good.ofE ?_ rfl
    have go : ∀ {v : V} {d : D}, Rp X.K (fun _ => none) v d → RelV v u → PE X (.Name y' p) (rdV X.K F0 H0 ea W false (evE (.glo z d))) := fun {v d} rv hr =>
      PEi (pe_glob (gl_ok w h2) hu hr (nm_ok h3).1) fun σ H Q ⟨F, env, r, q⟩ => by
        rw [evE] at q
        exact AnsW.here r.sub q v (rv.mono nomono)
    cases d' <;> cases d <;> first
      | (cases hq; done)
      | skip
    · have hq := of_decide_eq_true hq
      subst hq
      exact go (.int _) hv
    · have hq := of_decide_eq_true hq
      subst hq
      exact go (.str _) hv
  | _ => simp [chkE] at h
theorem s_exi (w : Wf X G T cv bk ea) {i : Nat} {c : Str} {x : Expr} (h : chkE G bk bor (.exi i c) x = true) : Good X F0 H0 ea W bor x (mk (.exi i c)) (evE (.exi i c)) := by
  cases x with
  | Call f xs ks p =>
    cases f with
    | Name fn pf =>
      match xs, ks, h with
      | xs, _ :: _, h => simp [chkE] at h
      | [], [], h => simp [chkE] at h
      | [_], [], h => simp [chkE] at h
      | _ :: _ :: _ :: _, [], h => simp [chkE] at h
      | [a1, a2], [], h =>
        cases a1 <;> first
          | (simp [chkE] at h; done)
          | skip
        cases a2 <;> first
          | (simp [chkE] at h; done)
          | skip
        rename_i y p1 cn p2
        simp only [chkE, Bool.and_eq_true, decide_eq_true_eq] at h
        obtain ⟨⟨⟨⟨⟨⟨⟨⟨⟨h1, h2⟩, h3⟩, h4⟩, h5⟩, h6⟩, h7⟩, h8⟩, h9⟩, h10⟩ := h
        subst h2 h6
        obtain ⟨n1, n2, n3⟩ := name_ok w h5
        refine Good.ofE ⟨fun pins s σ H Q I ⟨F, env, r, q⟩ => ?_⟩ rfl
        rw [evE] at q
        split at q
        · rename_i d e
          obtain ⟨x, e1, e2, e3⟩ := r.at e
          subst e2
          exact (w.isE h1 h10 d _ e3 h9 (gl_ok w h4) (w.fre _ h3) n1 n2 n3 (gl_ok w h7) h8).run pins s σ H Q I ⟨e1, AnsW.here r.sub q _ (Rp.bl _)⟩
        · exact q.elim
    | _ => simp [chkE] at h
  | _ => simp [chkE] at h
theorem takesF {Y : Cx} (h : ∀ u s, Y.xe u s ↔ False := by intros; exact Iff.rfl) : Takes Y (wx cv WF) := fun u s x => by
  obtain ⟨_, _, _, _, _, _, _, _, _, _, _, _, _, _, _, _, z⟩ := x
  obtain ⟨_, _, _, z⟩ := z
  exact z.elim
theorem it_shp {it : It} {tgx x : Expr} (h : chkIt G bk bor tgx it x = true) : shp x = true := by
  cases it with
  | dat e => exact chk_shp (by simpa [chkIt] using h)
  | _ =>
    cases x <;> first
      | (simp [chkIt] at h; done)
      | skip
    rename_i f as ks p
    cases as with
    | cons _ _ => rfl
    | nil => cases f <;> cases ks <;> simp [chkIt] at h
mutual
theorem sE : ∀ (e : E) {X : Cx} {bk : Bk} {W : WD} {bor : Bool} {x : Expr}, Wf X G T cv bk ea → Takes X (wx cv W) → e.okT T → chkE G bk bor e x = true → Good X F0 H0 ea W bor x (mk e) (evE e)
  | .slot i, X, bk, W, bor, x, w, tk, ok, h => s_slot w h
  | .bor i, X, bk, W, bor, x, w, tk, ok, h => s_bor w h
  | .cst d, X, bk, W, bor, x, w, tk, ok, h => s_cst h
  | .glo z d, X, bk, W, bor, x, w, tk, ok, h => s_glo w h
  | .exi i c, X, bk, W, bor, x, w, tk, ok, h => s_exi w h
  | .tup es, X, bk, W, bor, x, w, tk, ok, h => by
    cases x with
    | Tuple xs k p => exact Good.ofE (pe_tupD (sEs es w tk ok (by simpa [chkE] using h))) rfl
    | _ => simp [chkE] at h
  | .lst es, X, bk, W, bor, x, w, tk, ok, h => by
    cases x with
    | List xs p => exact Good.ofG (pe_lstD (sEs es w tk ok (by simpa [chkE] using h))) rfl
    | _ => simp [chkE] at h
  | .bin o a b, X, bk, W, bor, x, w, tk, ok, h => by
    cases x with
    | BinOp xa op xb p =>
      simp only [chkE, Bool.and_eq_true] at h
      exact Good.ofG (pe_bin (opd h.1.1) (noX_bin o) (sE a w tk ok.1 h.1.2).v (sE b w tk ok.2 h.2).v) rfl
    | _ => simp [chkE] at h
  | .neg a, X, bk, W, bor, x, w, tk, ok, h => by
    cases x with
    | UnaryOp op xa p =>
      cases op with
      | USub => exact Good.ofE (pe_neg (sE a w tk ok (by simpa [chkE] using h)).v) rfl
      | _ => simp [chkE] at h
    | _ => simp [chkE] at h
  | .cmp o a b, X, bk, W, bor, x, w, tk, ok, h => by
    cases x with
    | Compare xa ops xs p =>
      match ops, xs, h with
      | [op], [xb], h =>
        simp only [chkE, Bool.and_eq_true] at h
        have ha := (sE a w tk ok.1 h.1.2).v
        have hb := (sE b w tk ok.2 h.2).v
        exact Good.ofT (pe_cmpD (opc w.rm h.1.1) (noX_cmp o) ha hb (chk_shp h.2)) (pt_cmpD (opc w.rm h.1.1) (noX_cmp o) ha hb (chk_shp h.2)) (fun _ _ _ e => nomatch e)
      | [], _, h => simp [chkE] at h
      | _ :: _ :: _, _, h => simp [chkE] at h
      | [_], [], h => simp [chkE] at h
      | [_], _ :: _ :: _, h => simp [chkE] at h
    | _ => simp [chkE] at h
  | .chn a b c, X, bk, W, bor, x, w, tk, ok, h => by
    cases x with
    | Compare xa ops xs p =>
      cases ops with
      | nil => simp [chkE] at h
      | cons o1 r =>
        cases o1 <;> first
          | (simp [chkE] at h; done)
          | skip
        cases r with
        | nil => simp [chkE] at h
        | cons o2 r =>
          cases o2 <;> first
            | (simp [chkE] at h; done)
            | skip
          cases r with
          | cons _ _ => simp [chkE] at h
          | nil =>
            match xs, h with
            | [xb, xc], h =>
              simp only [chkE, Bool.and_eq_true] at h
              have ha := (sE a w tk ok.1 h.1.1).v
              have hb := (sE b w tk ok.2.1 h.1.2).v
              have hc := (sE c w tk ok.2.2 h.2).v
              exact Good.ofT (pe_chnD w.rm (chk_shp h.2) ha hb hc) (pt_chnD w.rm (chk_shp h.2) ha hb hc) (fun _ _ _ e => nomatch e)
            | [], h => simp [chkE] at h
            | [_], h => simp [chkE] at h
            | _ :: _ :: _ :: _, h => simp [chkE] at h
    | _ => simp [chkE] at h
  | .and a b, X, bk, W, bor, x, w, tk, ok, h => by
    cases x with
    | BoolOp op xs p =>
      cases op with
      | Or => simp [chkE] at h
      | And =>
        match xs, h with
        | [], h => simp [chkE] at h
        | [_], h => simp [chkE] at h
        | [xa, xb], h =>
          simp only [chkE, Bool.and_eq_true] at h
          have ga := sE a w tk ok.1 h.1
          have gb := sE b w tk ok.2 h.2
          exact Good.ofW (pe_andD ga.v (pe_one gb.v)) (pw_andD (ga.t rfl) (pw_and1 (gb.t rfl)))
        | xa :: xb :: xc :: r, h =>
          simp only [chkE, Bool.and_eq_true] at h
          have ga := sE a w tk ok.1 h.1
          have gb := sE b w tk ok.2 h.2
          exact Good.ofW (pe_andD ga.v gb.v) (pw_andD (ga.t rfl) (gb.w rfl _ _ _ rfl))
    | _ => simp [chkE] at h
  | .or a b, X, bk, W, bor, x, w, tk, ok, h => by
    cases x with
    | BoolOp op xs p =>
      cases op with
      | And => simp [chkE] at h
      | Or =>
        match xs, h with
        | [], h => simp [chkE] at h
        | [_], h => simp [chkE] at h
        | [xa, xb], h =>
          simp only [chkE, Bool.and_eq_true] at h
          have ga := sE a w tk ok.1 h.1
          have gb := sE b w tk ok.2 h.2
          exact Good.ofW (pe_orD ga.v (pe_one gb.v)) (pw_orD (ga.t rfl) (pw_or1 (gb.t rfl)))
        | xa :: xb :: xc :: r, h =>
          simp only [chkE, Bool.and_eq_true] at h
          have ga := sE a w tk ok.1 h.1
          have gb := sE b w tk ok.2 h.2
          exact Good.ofW (pe_orD ga.v gb.v) (pw_orD (ga.t rfl) (gb.w rfl _ _ _ rfl))
    | _ => simp [chkE] at h
  | .not a, X, bk, W, bor, x, w, tk, ok, h => by
    cases x with
    | UnaryOp op xa p =>
      cases op with
      | Not =>
        have ga := sE (bor := false) a w tk ok (by simpa [chkE] using h)
        exact Good.ofT (pe_notD ga.v) (pt_notD (ga.t rfl)) (fun _ _ _ e => nomatch e)
      | _ => simp [chkE] at h
    | _ => simp [chkE] at h
  | .ite c a b, X, bk, W, bor, x, w, tk, ok, h => by
    cases x with
    | IfExp xc xa xb p =>
      simp only [chkE, Bool.and_eq_true] at h
      have gc := sE c w tk ok.1 h.1.1
      have ga := sE a w tk ok.2.1 h.1.2
      have gb := sE b w tk ok.2.2 h.2
      exact Good.ofT (pe_iteD (gc.t rfl) ga.v gb.v) (pt_iteD (gc.t rfl) (ga.t rfl) (gb.t rfl)) (fun _ _ _ e => nomatch e)
    | _ => simp [chkE] at h
  | .idx a i, X, bk, W, bor, x, w, tk, ok, h => by
    cases x with
    | Subscript xa xi p =>
      simp only [chkE, Bool.and_eq_true] at h
      exact Good.ofE (pe_idx (sE a w tk ok.1 h.1).v (sE i w tk ok.2 h.2).v (chk_shp h.2)) rfl
    | _ => simp [chkE] at h
  | .sli a lo hi, X, bk, W, bor, x, w, tk, ok, h => by
    cases x with
    | Subscript xa xi p =>
      cases xi with
      | Slice l u s p2 =>
        cases s with
        | none =>
          simp only [chkE, Bool.and_eq_true] at h
          exact Good.ofG (pe_sli (sE a w tk ok.1 h.1.1).v (sEo lo w tk ok.2.1 h.1.2) (sEo hi w tk ok.2.2 h.2)) rfl
        | some _ => simp [chkE] at h
      | _ => simp [chkE] at h
    | _ => simp [chkE] at h
  | .rev a, X, bk, W, bor, x, w, tk, ok, h => by
    cases x with
    | Subscript xa xi p =>
      cases xi with
      | Slice l u s p2 =>
        match l, u, s, h with
        | none, none, some sx, h =>
          cases sx with
          | UnaryOp op y q =>
            cases op <;> first
              | (simp [chkE] at h; done)
              | skip
            cases y with
            | Constant cn k q2 =>
              cases cn with
              | int n =>
                by_cases hn : n = 1
                · subst hn
                  exact Good.ofG (pe_rev (sE a w tk ok (by simpa [chkE] using h)).v) rfl
                · simp [chkE, hn] at h
              | _ => simp [chkE] at h
            | _ => simp [chkE] at h
          | _ => simp [chkE] at h
        | some _, _, _, h => simp [chkE] at h
        | none, some _, _, h => simp [chkE] at h
        | none, none, none, h => simp [chkE] at h
      | _ => simp [chkE] at h
    | _ => simp [chkE] at h
  | .call j g es, X, bk, W, bor, x, w, tk, ok, h => by
    cases x with
    | Call f xs ks p =>
      cases f with
      | Name fn pf =>
        cases ks with
        | cons _ _ => simp [chkE] at h
        | nil =>
          simp only [chkE, Bool.and_eq_true, decide_eq_true_eq, Bool.not_eq_true'] at h
          obtain ⟨⟨⟨⟨⟨⟨⟨h1, h2⟩, h3⟩, h4⟩, h5⟩, h6⟩, h7⟩, h8⟩ := h
          have ha := sEs (bor := false) es w tk ok.2 h8
          have hs := chkEs_shp h8
          have hl := chkEs_len h8
          have C := w.fns h1 j h3 fn _ h2 h7
          rw [← ok.1] at C
          cases xs with
          | nil => simp at hl; omega
          | cons a as =>
            exact Good.ofE (pe_callD tk C (gl_ok w h4) (nm_ok h5).1 hs (fun env ds e => evEs_len e) ha) rfl
      | _ => simp [chkE] at h
    | _ => simp [chkE] at h
  | .blt b es, X, bk, W, bor, x, w, tk, ok, h => by
    cases x with
    | Call f xs ks p =>
      cases f with
      | Name fn pf =>
        cases ks with
        | cons _ _ => simp [chkE] at h
        | nil =>
          simp only [chkE, Bool.and_eq_true, decide_eq_true_eq, Bool.not_eq_true'] at h
          obtain ⟨⟨⟨⟨⟨h1, h2⟩, h3⟩, h4⟩, h5⟩, h6⟩ := h
          subst h2
          have ha := sEs (bor := true) es w tk ok h6
          have hl := chkEs_len h6
          have hp := pe_bltD (p := pf) (pos := p) (w.calm h1) w.rm (gl_ok w h4) (w.fre _ h3) (by rw [hl, h5]; exact blt_pos b) (chkEs_shp h6) ha
          cases b <;> first
            | exact Good.ofG (PEi hp (rbl_of (t := tNil) (by intro z; cases z))) rfl
            | exact Good.ofE (PEi hp (rbl_min (t := tNil))) rfl
      | _ => simp [chkE] at h
    | _ => simp [chkE] at h
  | .isi a t, X, bk, W, bor, x, w, tk, ok, h => by
    cases x with
    | Call f xs ks p =>
      cases f with
      | Name fn pf =>
        match xs, ks, h with
        | xs, _ :: _, h => simp [chkE] at h
        | [], [], h => simp [chkE] at h
        | [_], [], h => simp [chkE] at h
        | _ :: _ :: _ :: _, [], h => simp [chkE] at h
        | [xa, a2], [], h =>
          cases a2 <;> first
            | (simp [chkE] at h; done)
            | skip
          rename_i y p2
          simp only [chkE, Bool.and_eq_true, decide_eq_true_eq] at h
          obtain ⟨⟨⟨⟨⟨⟨h1, h2⟩, h3⟩, h4⟩, h5⟩, h6⟩, h7⟩ := h
          subst h1 h4
          exact Good.ofE (pe_isiD (gl_ok w h3) (w.fre _ h2) (gl_ok w h6) (w.fre _ h5) (chk_shp h7) (sE a w tk ok h7).v) rfl
      | _ => simp [chkE] at h
    | _ => simp [chkE] at h
  | .isk n a k, X, bk, W, bor, x, w, tk, ok, h => by
    cases x with
    | Compare xa ops xs p =>
      match ops, xs, h with
      | [], _, h => simp [chkE] at h
      | _ :: _ :: _, _, h => simp [chkE] at h
      | [_], [], h => simp [chkE] at h
      | [_], _ :: _ :: _, h => simp [chkE] at h
      | [op], [xc], h =>
        cases xc <;> first
          | (simp [chkE] at h; done)
          | skip
        rename_i cn kk p1
        simp only [chkE, Bool.and_eq_true] at h
        obtain ⟨⟨h1, h2⟩, h3⟩ := h
        have ho : op = if n = true then .IsNot else .Is := by
          cases op <;> cases n <;> first | rfl | (cases h1; done)
        have hp := pe_isk (pos := p) (kk := kk) (p1 := p1) ho h2 (sE a w tk ok h3).v
        exact Good.ofT hp.1 hp.2 (fun _ _ _ e => nomatch e)
    | _ => simp [chkE] at h
  | .met m a es, X, bk, W, bor, x, w, tk, ok, h => by
    cases x with
    | Call f xs ks p =>
      cases f with
      | Attribute xo y apos =>
        cases ks with
        | cons _ _ => simp [chkE] at h
        | nil =>
          simp only [chkE, Bool.and_eq_true, decide_eq_true_eq] at h
          obtain ⟨⟨⟨⟨h1, h2⟩, h3⟩, h4⟩, h5⟩ := h
          subst h1
          have ha := sEs (bor := false) es w tk ok.2 h5
          have hl := chkEs_len h5
          have hs := chkEs_shp h5
          match xs, hl, hs, ha with
          | [xb], _, hs, ha => exact Good.ofE (pe_metD w.rm h2 (chk_shp h4) (hs xb List.mem_cons_self) (sE a w tk ok.1 h4).v ha) rfl
          | [], hl, _, _ => simp at hl; omega
          | _ :: _ :: _, hl, _, _ => simp at hl; omega
      | _ => simp [chkE] at h
    | _ => simp [chkE] at h
  | .lc own tg it cs e, X, bk, W, bor, x, w, tk, ok, h => by
    cases x with
    | ListComp elt gs scope p =>
      match gs, h with
      | [], h => simp [chkE] at h
      | _ :: _ :: _ :: _, h => simp [chkE] at h
      | [_, _], h => simp [chkE] at h
      | [⟨t, i, ifs, as⟩], h =>
        by_cases ha : as = 0
        · subst ha
          simp only [chkE, Bool.and_eq_true, Bool.not_eq_true'] at h
          obtain ⟨⟨⟨⟨⟨⟨h1, h2⟩, h3⟩, h4⟩, h5⟩, h6⟩, h7⟩ := h
          have hsub : ∀ j ∈ tgv tg, j ∈ own := fun j hj => by
            have := List.all_eq_true.mp h3 j hj
            simpa using this
          refine Good.ofG (pe_lcD (own := own) (tg := tg) (xi := evIt it) (xt := evCs cs) (xe := evE e) (w.calm h1) w.nd (by rw [w.hN, w.sc]; exact h2) hsub (it_shp h4) (sIt it w tk ok.1 h4) (fun s H C cl fp => ?_) (fun s H C cl fp => ?_) (fun s H C cl fp => ?_)) rfl
          · have wb := w.blk h1 s H scope cl C fp
            exact tg_sound (wb.calm h1) wb.hN wb.nd wb.st tg t h5
          · exact sCs cs (w.blk h1 s H scope cl C fp) (takesF) ok.2.1 h6
          · exact (sE e (w.blk h1 s H scope cl C fp) (takesF) ok.2.2 h7).v
        · simp [chkE, ha] at h
    | _ => simp [chkE] at h
  | .lc2 own tg it cs tg2 it2 cs2 e, X, bk, W, bor, x, w, tk, ok, h => by
    cases x with
    | ListComp elt gs scope p =>
      match gs, h with
      | [], h => simp [chkE] at h
      | _ :: _ :: _ :: _, h => simp [chkE] at h
      | [_], h => simp [chkE] at h
      | [⟨t, i, ifs, as⟩, ⟨t2, i2, ifs2, as2⟩], h =>
        by_cases ha : as = 0
        · by_cases ha2 : as2 = 0
          · subst ha ha2
            simp only [chkE, Bool.and_eq_true, Bool.not_eq_true'] at h
            obtain ⟨⟨⟨⟨⟨⟨⟨⟨⟨⟨h1, h2⟩, h3⟩, h4⟩, h5⟩, h6⟩, h7⟩, h8⟩, h9⟩, h10⟩, h11⟩ := h
            have hsub : ∀ j ∈ tgv tg, j ∈ own := fun j hj => by
              have := List.all_eq_true.mp h3 j hj
              simpa using this
            have hsub2 : ∀ j ∈ tgv tg2, j ∈ own := fun j hj => by
              have := List.all_eq_true.mp h7 j hj
              simpa using this
            refine Good.ofG (pe_lc2D (own := own) (tg := tg) (xi := evIt it) (xt := evCs cs) (xe := evE e) (tg2 := tg2) (xi2 := evIt it2) (xt2 := evCs cs2) (w.calm h1) w.nd (by rw [w.hN, w.sc]; exact h2) hsub hsub2 (it_shp h4) (it_shp h8) (sIt it w tk ok.1 h4)
              (fun s H C cl fp => ?_) (fun s H C cl fp => ?_) (fun s H C cl fp => ?_) (fun s H C cl fp => ?_) (fun s H C cl fp => ?_) (fun s H C cl fp => ?_)) rfl
            · have wb := w.blk h1 s H scope cl C fp
              exact tg_sound (wb.calm h1) wb.hN wb.nd wb.st tg t h5
            · exact sCs cs (w.blk h1 s H scope cl C fp) (takesF) ok.2.1 h6
            · exact sIt it2 (w.blk h1 s H scope cl C fp) (takesF) ok.2.2.1 h8
            · have wb := w.blk h1 s H scope cl C fp
              exact tg_sound (wb.calm h1) wb.hN wb.nd wb.st tg2 t2 h9
            · exact sCs cs2 (w.blk h1 s H scope cl C fp) (takesF) ok.2.2.2.1 h10
            · exact (sE e (w.blk h1 s H scope cl C fp) (takesF) ok.2.2.2.2 h11).v
          · subst ha; simp [chkE, ha2] at h
        · simp [chkE, ha] at h
    | _ => simp [chkE] at h
theorem sEs : ∀ (es : Es) {X : Cx} {bk : Bk} {W : WD} {bor : Bool} {xs : List Expr}, Wf X G T cv bk ea → Takes X (wx cv W) → es.okT T → chkEs G bk bor es xs = true → PA X xs (rdA X.K F0 H0 ea W bor (evEs es))
  | .nil, X, bk, W, bor, xs, w, tk, ok, h => by
    cases xs with
    | nil => exact pa_nilD
    | cons _ _ => simp [chkEs] at h
  | .cons e es, X, bk, W, bor, xs, w, tk, ok, h => by
    cases xs with
    | nil => simp [chkEs] at h
    | cons x xs =>
      simp only [chkEs, Bool.and_eq_true] at h
      exact pa_consD (chk_shp h.1) (sE e w tk ok.1 h.1).v (sEs es w tk ok.2 h.2)
theorem sEo : ∀ (eo : Eo) {X : Cx} {bk : Bk} {W : WD} {x : Option Expr}, Wf X G T cv bk ea → Takes X (wx cv W) → eo.okT T → chkEo G bk eo x = true → PO X x (rdO X.K F0 H0 ea W (evEo eo))
  | .non, X, bk, W, x, w, tk, ok, h => by
    cases x with
    | none => exact po_non
    | some _ => simp [chkEo] at h
  | .som e, X, bk, W, x, w, tk, ok, h => by
    cases x with
    | none => simp [chkEo] at h
    | some x => exact po_som (sE (bor := false) e w tk ok (by simpa [chkEo] using h)).v
theorem sIt : ∀ (it : It) {X : Cx} {bk : Bk} {W : WD} {bor : Bool} {tgx x : Expr}, Wf X G T cv bk ea → Takes X (wx cv W) → it.okT T → chkIt G bk bor tgx it x = true → PI X tgx x (rdI X.K F0 H0 ea W bor (evIt it))
  | .dat e, X, bk, W, bor, tgx, x, w, tk, ok, h => pi_dat (sE e w tk ok (by simpa [chkIt] using h)).v
  | .zip a b, X, bk, W, bor, tgx, x, w, tk, ok, h => by
    cases x with
    | Call f xs ks p =>
      cases f with
      | Name fn pf =>
        match xs, ks, h with
        | xs, _ :: _, h => rcases xs with _ | ⟨_, _ | ⟨_, _ | ⟨_, _⟩⟩⟩ <;> simp [chkIt] at h
        | [], [], h => simp [chkIt] at h
        | [_], [], h => simp [chkIt] at h
        | _ :: _ :: _ :: _, [], h => simp [chkIt] at h
        | [xa, xb], [], h =>
          simp only [chkIt, Bool.and_eq_true, decide_eq_true_eq] at h
          obtain ⟨⟨⟨⟨⟨h1, h2⟩, h3⟩, h4⟩, h5⟩, h6⟩ := h
          subst h1
          cases tgx with
          | Tuple es k tp => exact pi_zipD (gl_ok w h3) (w.fre _ h2) (chk_shp h5) (chk_shp h6) (sE a w tk ok.1 h5).v (sE b w tk ok.2 h6).v
          | _ => cases h4
      | _ => simp [chkIt] at h
    | _ => simp [chkIt] at h
  | .enu a, X, bk, W, bor, tgx, x, w, tk, ok, h => by
    cases x with
    | Call f xs ks p =>
      cases f with
      | Name fn pf =>
        match xs, ks, h with
        | xs, _ :: _, h => rcases xs with _ | ⟨_, _ | ⟨_, _ | ⟨_, _⟩⟩⟩ <;> simp [chkIt] at h
        | [], [], h => simp [chkIt] at h
        | _ :: _ :: _, [], h => simp [chkIt] at h
        | [xa], [], h =>
          simp only [chkIt, Bool.and_eq_true, decide_eq_true_eq] at h
          obtain ⟨⟨⟨⟨h1, h2⟩, h3⟩, h4⟩, h5⟩ := h
          subst h1
          cases tgx with
          | Tuple es k tp => exact pi_enuD (gl_ok w h3) (w.fre _ h2) (chk_shp h5) (sE a w tk ok h5).v
          | _ => cases h4
      | _ => simp [chkIt] at h
    | _ => simp [chkIt] at h
  | .rg1 a, X, bk, W, bor, tgx, x, w, tk, ok, h => by
    cases x with
    | Call f xs ks p =>
      cases f with
      | Name fn pf =>
        match xs, ks, h with
        | xs, _ :: _, h => rcases xs with _ | ⟨_, _ | ⟨_, _ | ⟨_, _⟩⟩⟩ <;> simp [chkIt] at h
        | [], [], h => simp [chkIt] at h
        | _ :: _ :: _, [], h => simp [chkIt] at h
        | [xa], [], h =>
          simp only [chkIt, Bool.and_eq_true, decide_eq_true_eq] at h
          obtain ⟨⟨⟨h1, h2⟩, h3⟩, h5⟩ := h
          subst h1
          exact pi_rg1 (gl_ok w h3) (w.fre _ h2) (chk_shp h5) (sE a w tk ok h5).v
      | _ => simp [chkIt] at h
    | _ => simp [chkIt] at h
  | .rg2 a b, X, bk, W, bor, tgx, x, w, tk, ok, h => by
    cases x with
    | Call f xs ks p =>
      cases f with
      | Name fn pf =>
        match xs, ks, h with
        | xs, _ :: _, h => rcases xs with _ | ⟨_, _ | ⟨_, _ | ⟨_, _⟩⟩⟩ <;> simp [chkIt] at h
        | [], [], h => simp [chkIt] at h
        | [_], [], h => simp [chkIt] at h
        | _ :: _ :: _ :: _, [], h => simp [chkIt] at h
        | [xa, xb], [], h =>
          simp only [chkIt, Bool.and_eq_true, decide_eq_true_eq] at h
          obtain ⟨⟨⟨⟨h1, h2⟩, h3⟩, h5⟩, h6⟩ := h
          subst h1
          exact pi_rg2 (gl_ok w h3) (w.fre _ h2) (chk_shp h5) (chk_shp h6) (sE a w tk ok.1 h5).v (sE b w tk ok.2 h6).v
      | _ => simp [chkIt] at h
    | _ => simp [chkIt] at h
theorem sCs : ∀ (cs : Cs) {X : Cx} {bk : Bk} {W : WD} {xs : List Expr}, Wf X G T cv bk ea → Takes X (wx cv W) → cs.okT T → chkCs G bk cs xs = true → PTs X xs (rdT X.K F0 H0 ea W (evCs cs))
  | .nil, X, bk, W, xs, w, tk, ok, h => by
    cases xs with
    | nil => exact PTsi pts_nil fun σ H Q ⟨F, env, r, q⟩ => AnsW.here r.sub q
    | cons _ _ => simp [chkCs] at h
  | .one e, X, bk, W, xs, w, tk, ok, h => by
    match xs, h with
    | [], h => simp [chkCs] at h
    | _ :: _ :: _, h => simp [chkCs] at h
    | [x], h => exact pts_one ((sE (bor := false) e w tk ok (by simpa [chkCs] using h)).t rfl)
end
end
end Fp

set_option Elab.async false
set_option linter.all false
set_option maxRecDepth 100000
set_option maxHeartbeats 2000000
/-! Statements, by readings. -/
namespace Fp
open PySem PySem.Spec PyProof.Rows L2
def AnsS (K : PySem.W.Frag) (F0 H0 : Hp) (ea : Ea) (W : WD) (F : Hp) (x : Fl) (D : Ends) : Prop := match x with
  | .nx env' => ∀ σ' F' H', Same F F' → Rel K F0 H0 ea env' σ' F' H' → D.nx σ' H'
  | .rt d => ∀ v F' H', Same F F' → Ext F0 H0 F' H' → Rp K F' v d → D.rt v H'
  | .ex c env' => ∀ σ' F' H', Same F F' → Rel K F0 H0 ea env' σ' F' H' → W c σ' H'
  | .no => False
def rdS (K : PySem.W.Frag) (F0 H0 : Hp) (ea : Ea) (W : WD) (x : Fp.Env → Fl) : TS := fun D σ H => ∃ F env, Rel K F0 H0 ea env σ F H ∧ AnsS K F0 H0 ea W F (x env) D
section
variable {K : PySem.W.Frag} {F0 H0 F H F1 H1 : Hp} {ea : Ea} {W : WD} {env : Fp.Env} {σ : L2.St} {D : Ends}
theorem AnsS.grow {x : Fl} (h : AnsS K F0 H0 ea W F x D) (e : Same F F1) : AnsS K F0 H0 ea W F1 x D := by
  cases x with
  | nx env' => exact fun σ' F' H' s r => h σ' F' H' (e.trans s) r
  | rt d => exact fun v F' H' s r => h v F' H' (e.trans s) r
  | ex c env' => exact fun σ' F' H' s r => h σ' F' H' (e.trans s) r
  | no => exact h
/-- behind an expression -/
theorem AnsS.ofR {f : Fp.D → Fl} {S : Fp.D → Hp → Hp → Prop} {x : R Fp.D} (r : Rel K F0 H0 ea env σ F H) (h : AnsS K F0 H0 ea W F (ofR env x f) D) (k : ∀ d F' H', x = .ok d → Ext F H F' H' → AnsS K F0 H0 ea W F' (f d) D → S d F' H') :
    AnsW F H x S fun c H' => W c σ H' := by
  cases x with
  | ok d => exact fun F' H' e => k d F' H' rfl e (AnsS.grow (x := f d) h e.ff)
  | ex c => exact fun F' H' e => h σ F' H' e.ff (r.grow e)
  | no => exact h
theorem AnsS.then_ {x : Fl} {f : Fp.Env → Fl} {D' : Ends} (h : AnsS K F0 H0 ea W F (x.andThen f) D) (hr : D'.rt = D.rt) (k : ∀ e σ' F' H', Same F F' → Rel K F0 H0 ea e σ' F' H' → AnsS K F0 H0 ea W F' (f e) D → D'.nx σ' H') : AnsS K F0 H0 ea W F x D' := by
  cases x with
  | nx e => exact fun σ' F' H' s r => k e σ' F' H' s r (AnsS.grow (x := f e) h s)
  | rt d => exact fun v F' H' s r rp => by rw [hr]; exact h v F' H' s r rp
  | ex c e => exact h
  | no => exact h
/-! ### slots are stored -/
/-- no owned slot stands at v -/
def NotOwn (env : Fp.Env) (σ : L2.St) (v : V) : Prop := ∀ (i : Nat) (a : Addr), (∃ d, env[i]? = some (Slot.own d)) → σ[i]? = some (some (V.ref a)) → v ≠ .ref a
theorem Rel.setS {i : Nat} {s : Slot} {v : V} (r : Rel K F0 H0 ea env σ F H) (hs : SlotOk K H0 F H ea s (some v)) (hn : (∃ d, s = .own d) → NotOwn env σ v) : Rel K F0 H0 ea (env.set i s) (σ.set i (some v)) F H := by
  refine ⟨r.ext, by rw [List.length_set, List.length_set]; exact r.len, fun j s' x' h1 h2 => ?_, fun j k s' t' x' y' a hjk h1 h2 h3 h4 o1 o2 => ?_⟩
  · rcases set_get h1 with ⟨e1, e2, e3⟩ | ⟨e1, e2⟩
    · rcases set_get h2 with ⟨f1, f2, f3⟩ | ⟨f1, f2⟩
      · subst e2 f2; exact hs
      · exact absurd e1 f1
    · rcases set_get h2 with ⟨f1, f2, f3⟩ | ⟨f1, f2⟩
      · exact absurd f1 e1
      · exact r.slot j s' x' e2 f2
  · have cases_ : ∀ {m : Nat} {u : Slot} {z : Option V}, (env.set i s)[m]? = some u → (σ.set i (some v))[m]? = some z → (m = i ∧ u = s ∧ z = some v) ∨ (m ≠ i ∧ env[m]? = some u ∧ σ[m]? = some z) := fun {m u z} g1 g2 => by
      rcases set_get g1 with ⟨e1, e2, e3⟩ | ⟨e1, e2⟩
      · rcases set_get g2 with ⟨f1, f2, f3⟩ | ⟨f1, f2⟩
        · exact .inl ⟨e1, e2, f2⟩
        · exact absurd e1 f1
      · rcases set_get g2 with ⟨f1, f2, f3⟩ | ⟨f1, f2⟩
        · exact absurd f1 e1
        · exact .inr ⟨e1, e2, f2⟩
    rcases cases_ h1 h3 with ⟨a1, a2, a3⟩ | ⟨a1, a2, a3⟩
    · rcases cases_ h2 h4 with ⟨b1, b2, b3⟩ | ⟨b1, b2, b3⟩
      · exact hjk (a1.trans b1.symm)
      · subst a2 a3
        obtain ⟨⟨d, hd⟩, hv⟩ := o1
        obtain ⟨⟨d', hd'⟩, hv'⟩ := o2
        subst hd' hv'
        exact hn ⟨d, hd⟩ k a ⟨d', b2⟩ b3 (Option.some.inj hv)
    · rcases cases_ h2 h4 with ⟨b1, b2, b3⟩ | ⟨b1, b2, b3⟩
      · subst b2 b3
        obtain ⟨⟨d, hd⟩, hv⟩ := o2
        obtain ⟨⟨d', hd'⟩, hv'⟩ := o1
        subst hd' hv'
        exact hn ⟨d, hd⟩ j a ⟨d', a2⟩ a3 (Option.some.inj hv)
      · exact r.apart j k s' t' x' y' a hjk a2 b2 a3 b3 o1 o2
/-- a value that is new, or frozen -/
theorem Rel.notOwn (r : Rel K F0 H0 ea env σ F H) {p : Addr} (hp : H p = none) : NotOwn env σ (.ref p) := by
  intro i a hd h2 e
  obtain ⟨d, h1⟩ := hd
  obtain ⟨x, q1, a', vs', ds', w2, w3, w4, w5, w6, w7⟩ := r.at h1
  subst w2
  rw [h2] at q1
  cases q1
  cases e
  rw [hp] at w6
  cases w6
theorem NotOwn.set {i : Nat} {s : Slot} {v w : V} (h : NotOwn env σ w) (hv : (∃ d, s = .own d) → w ≠ v) : NotOwn (env.set i s) (σ.set i (some v)) w := by
  intro j a hd h2
  obtain ⟨d, h1⟩ := hd
  rcases set_get h1 with ⟨e1, e2, e3⟩ | ⟨e1, e2⟩
  · rcases set_get h2 with ⟨f1, f2, f3⟩ | ⟨f1, f2⟩
    · cases f2
      exact hv ⟨d, e2.symm⟩
    · exact absurd e1 f1
  · rcases set_get h2 with ⟨f1, f2, f3⟩ | ⟨f1, f2⟩
    · exact absurd f1 e1
    · exact h j a ⟨d, e2⟩ f2
/-- an owned list changes -/
theorem Rel.mut {i : Nat} {xs ys : List Fp.D} {a : Addr} {ws : List V} (r : Rel K F0 H0 ea env σ F H) (hi : env[i]? = some (Slot.own (.list xs))) (hs : σ[i]? = some (some (V.ref a))) (rp : RpAll K F ws ys) :
    Rel K F0 H0 ea (env.set i (.own (.list ys))) σ F (upd H a (.lst ws)) := by
  obtain ⟨x, q1, a', vs', ds', w2, w3, w4, w5, w6, w7⟩ := r.at hi
  subst w2
  rw [hs] at q1
  cases q1
  have hil : i < env.length := (List.getElem?_eq_some_iff.mp hi).1
  refine ⟨r.ext.mut w5 w4, by rw [List.length_set]; exact r.len, fun j s x h1 h2 => ?_, fun j k s t x y b hjk h1 h2 h3 h4 o1 o2 => ?_⟩
  · rcases set_get h1 with ⟨e1, e2, e3⟩ | ⟨e1, e2⟩
    · subst e1 e2
      rw [hs] at h2
      cases h2
      exact ⟨a, ws, ys, rfl, rfl, w4, w5, upd_same, rp⟩
    · have q := r.slot j s x e2 h2
      cases s with
      | un => trivial
      | exc c => exact q
      | val d => exact q
      | own d =>
        obtain ⟨b, vs, ds, z1, z2, z3, z4, z5, z6⟩ := q
        refine ⟨b, vs, ds, z1, z2, z3, z4, ?_, z6⟩
        rw [upd_ne ?_]
        · exact z5
        · intro e
          subst e
          exact r.apart j i _ _ _ _ b e1 e2 hi h2 hs ⟨⟨d, rfl⟩, z1⟩ ⟨⟨_, rfl⟩, rfl⟩
  · have old : ∀ {m : Nat} {u : Slot} {z : Option V}, (env.set i (.own (.list ys)))[m]? = some u → σ[m]? = some z → ownA u z b → ∃ u', env[m]? = some u' ∧ ownA u' z b := fun {m u z} g1 g2 o => by
      rcases set_get g1 with ⟨e1, e2, e3⟩ | ⟨e1, e2⟩
      · subst e1 e2
        exact ⟨_, hi, ⟨_, rfl⟩, o.2⟩
      · exact ⟨u, e2, o⟩
    obtain ⟨s', a1, a2⟩ := old h1 h3 o1
    obtain ⟨t', b1, b2⟩ := old h2 h4 o2
    exact r.apart j k s' t' x y b hjk a1 b1 h3 h4 a2 b2
/-- an owned list is frozen -/
theorem Rel.freeze {i : Nat} {d : Fp.D} (r : Rel K F0 H0 ea env σ F H) (hi : env[i]? = some (Slot.own d)) : ∃ F', Same F F' ∧ Rel K F0 H0 ea (env.set i (.val d)) σ F' H := by
  obtain ⟨x, q1, a, vs, ds, w2, w3, w4, w5, w6, w7⟩ := r.at hi
  subst w2 w3
  have hf : Same F (upd F a (.lst vs)) := Fp.Same.upd w4
  refine ⟨upd F a (.lst vs), hf, r.ext.freeze w5 w6 w4, by rw [List.length_set]; exact r.len, fun j s x h1 h2 => ?_, fun j k s t x y b hjk h1 h2 h3 h4 o1 o2 => ?_⟩
  · rcases set_get h1 with ⟨e1, e2, e3⟩ | ⟨e1, e2⟩
    · subst e1 e2
      rw [q1] at h2
      cases h2
      exact ⟨.ref a, rfl, .lst (LsX.of upd_same) (w7.mono hf)⟩
    · have q := r.slot j s x e2 h2
      cases s with
      | un => trivial
      | exc c => exact q
      | val d =>
        obtain ⟨v, h1, h2⟩ := q
        exact ⟨v, h1, h2.mono hf⟩
      | own d =>
        obtain ⟨b, vs', ds', z1, z2, z3, z4, z5, z6⟩ := q
        refine ⟨b, vs', ds', z1, z2, ?_, z4, z5, z6.mono hf⟩
        rw [upd_ne ?_]
        · exact z3
        · intro e
          subst e
          exact r.apart j i _ _ _ _ b e1 e2 hi h2 q1 ⟨⟨d, rfl⟩, z1⟩ ⟨⟨_, rfl⟩, rfl⟩
  · have old : ∀ {m : Nat} {u : Slot} {z : Option V}, (env.set i (.val (.list ds)))[m]? = some u → ownA u z b → env[m]? = some u := fun {m u z} g1 o => by
      rcases set_get g1 with ⟨e1, e2, e3⟩ | ⟨e1, e2⟩
      · obtain ⟨⟨d, hd⟩, _⟩ := o
        subst e2; cases hd
      · exact e2
    exact r.apart j k s t x y b hjk (old h1 o1) (old h2 o2) h3 h4 o1 o2
theorem noExc_get {i : Nat} {s : Slot} (h : (noExc env)[i]? = some s) : (∃ c, env[i]? = some (.exc c) ∧ s = .un) ∨ (env[i]? = some s ∧ ∀ c, s ≠ .exc c) := by
  unfold noExc at h
  rw [List.getElem?_map] at h
  cases e : env[i]? with
  | none => rw [e] at h; cases h
  | some u =>
    rw [e] at h
    cases u with
    | exc c => cases h; exact .inl ⟨c, rfl, rfl⟩
    | un => cases h; exact .inr ⟨rfl, fun _ z => nomatch z⟩
    | val d => cases h; exact .inr ⟨rfl, fun _ z => nomatch z⟩
    | own d => cases h; exact .inr ⟨rfl, fun _ z => nomatch z⟩
theorem Rel.noExc (r : Rel K F0 H0 ea env σ F H) (eb : Ea) : Rel K F0 H0 eb (noExc env) σ F H := by
  refine ⟨r.ext, by unfold Fp.noExc; rw [List.length_map]; exact r.len, fun i s x h1 h2 => ?_, fun j k s t x y b hjk h1 h2 h3 h4 o1 o2 => ?_⟩
  · rcases noExc_get h1 with ⟨c, e1, e2⟩ | ⟨e1, e2⟩
    · subst e2; trivial
    · have q := r.slot i s x e1 h2
      cases s with
      | un => trivial
      | exc c => exact absurd rfl (e2 c)
      | val d => exact q
      | own d => exact q
  · have old : ∀ {m : Nat} {u : Slot} {z : Option V}, (Fp.noExc env)[m]? = some u → ownA u z b → env[m]? = some u := fun {m u z} g1 o => by
      rcases noExc_get g1 with ⟨c, e1, e2⟩ | ⟨e1, e2⟩
      · obtain ⟨⟨d, hd⟩, _⟩ := o
        subst e2; cases hd
      · exact e1
    exact r.apart j k s t x y b hjk (old h1 o1) (old h2 o2) h3 h4 o1 o2
end
theorem PSi {X : Cx} {st : Stmt} {t t' : TS} (h : PS X st t) (k : ∀ D σ H, t' D σ H → t D σ H) : PS X st t' := ⟨fun pins s σ H D I q => h.run pins s σ H D I (k D σ H q)⟩
theorem PSsi {X : Cx} {st : List Stmt} {t t' : TS} (h : PSs X st t) (k : ∀ D σ H, t' D σ H → t D σ H) : PSs X st t' := ⟨fun pins s σ H D I q => h.run pins s σ H D I (k D σ H q)⟩
section
variable {X : Cx} {F0 H0 : Hp} {ea : Ea} {W : WD} {st : Stmt} {r : List Stmt} {a b : Expr} {xa xb : Fp.Env → R D} {f g : Fp.Env → Fl} {pos : Pos} {i : Nat} {y : Str} {py : Pos}
theorem pss_nilD : PSs X [] (rdS X.K F0 H0 ea W fun env => .nx env) := PSsi pss_nil fun D σ H ⟨F, env, r, q⟩ => q σ F H (Same.refl _) r
theorem pss_consD (h : PS X st (rdS X.K F0 H0 ea W f)) (k : PSs X r (rdS X.K F0 H0 ea W g)) : PSs X (st :: r) (rdS X.K F0 H0 ea W fun env => (f env).andThen g) :=
  PSsi (pss_cons h k) fun D σ H ⟨F, env, rl, q⟩ => ⟨F, env, rl, AnsS.then_ q rfl fun e σ' F' H' s r' q' => ⟨F', e, r', q'⟩⟩
theorem ps_passD : PS X (.Pass pos) (rdS X.K F0 H0 ea W fun env => .nx env) := PSi ps_pass fun D σ H ⟨F, env, r, q⟩ => q σ F H (Same.refl _) r
theorem ps_retD (ha : PE X a (rdV X.K F0 H0 ea W false xa)) : PS X (.Return (some a) pos) (rdS X.K F0 H0 ea W fun env => ofR env (xa env) fun d => .rt d) :=
  PSi (ps_ret ha) fun D σ H ⟨F, env, r, q⟩ => ⟨F, env, r, AnsS.ofR (x := xa env) (D := D) r q fun d F' H' _ e k v hv => k v F' H' (Same.refl _) (r.ext.trans e) hv⟩
def notLC : Expr → Bool
  | .ListComp _ _ _ _ => false
  | _ => true
theorem sw_none {t : Option Expr} {l : Nat} {env : PySem.Env} (hs : shp a = true) (hn : notLC a = true) : swapsWith a t l env = pure false := by
  cases a <;> first
    | rfl
    | (cases hs; done)
    | (cases hn; done)
theorem ps_expD (hs : shp a = true) (hn : notLC a = true) (ha : PE X a (rdV X.K F0 H0 ea W false xa)) : PS X (.Expr a pos) (rdS X.K F0 H0 ea W fun env => ofR env (xa env) fun _ => .nx env) :=
  PSi (ps_expr ha (sw_none hs hn)) fun D σ H ⟨F, env, r, q⟩ => ⟨F, env, r, AnsS.ofR (x := xa env) (D := D) r q fun d F' H' _ e k v hv => k σ F' H' (Same.refl _) (r.grow e)⟩
theorem ps_ifeD {p q : List Stmt} (hc : PT X a (rdT X.K F0 H0 ea W fun env => (xa env).bind asB)) (hp : PSs X p (rdS X.K F0 H0 ea W f)) (hq : PSs X q (rdS X.K F0 H0 ea W g)) :
    PS X (.If a p q pos) (rdS X.K F0 H0 ea W fun env => ofR env (xa env) fun d => match d with
      | .bool true => f env
      | .bool false => g env
      | _ => .no) :=
  PSi (ps_if hc hp hq) fun D σ H ⟨F, env, r, q⟩ => by
    refine ⟨F, env, r, ?_⟩
    revert q
    dsimp only
    cases xa env with
    | ok d =>
      cases d with
      | bool k =>
        cases k with
        | true => exact fun q F' H' e => ⟨F', env, r.grow e, AnsS.grow (x := f env) q e.ff⟩
        | false => exact fun q F' H' e => ⟨F', env, r.grow e, AnsS.grow (x := g env) q e.ff⟩
      | _ => exact fun q => q.elim
    | ex c => exact fun q F' H' e => q σ F' H' e.ff (r.grow e)
    | no => exact fun q => q
/-! ### name = value -/
abbrev SetsA (X : Cx) (y : Str) (py : Pos) (x : Expr) (spos : Pos) (i : Nat) (t : TE) : Prop := PS X (.Assign [.Name y py] x spos) (tAsg t (gName i))
theorem ps_asnD (h : SetsA X y py a pos i (rdV X.K F0 H0 ea W false xa)) : PS X (.Assign [.Name y py] a pos) (rdS X.K F0 H0 ea W fun env => ofR env (xa env) fun d => ofE (asg (.nm i) d env)) :=
  PSi h fun D σ H ⟨F, env, r, q⟩ => ⟨F, env, r, AnsS.ofR (x := xa env) (D := D) r q fun d F' H' _ e k v hv => by
    have hv : Rp X.K F' v d := hv
    unfold asg at k
    split at k
    · exact k _ F' H' (Same.refl _) ((r.grow e).setN ⟨v, rfl, hv⟩ fun _ z => nomatch z)
    · exact k.elim⟩
theorem ps_ownD (h : SetsA X y py a pos i (rdG X.K F0 H0 ea W xa)) : PS X (.Assign [.Name y py] a pos) (rdS X.K F0 H0 ea W fun env => ofR env (xa env) fun d => match d with
    | .list xs => ofE (setS i (.own (.list xs)) env)
    | _ => .no) :=
  PSi h fun D σ H ⟨F, env, r, q⟩ => ⟨F, env, r, AnsS.ofR (x := xa env) (D := D) r q fun d F' H' _ e k => by
    refine ⟨fun v nl hv => ?_, fun ds p vs ed hp ho hf hr => ?_⟩
    · cases d with
      | list xs => exact absurd rfl (nl xs)
      | _ => exact k.elim
    · subst ed
      dsimp only at k
      unfold setS at k
      split at k
      · exact k _ F' H' (Same.refl _) ((r.grow e).setS ⟨p, vs, ds, rfl, rfl, hf, r.ext.hh.free hp, ho, hr⟩ fun _ => fun j b hd h2 => r.notOwn hp j b hd h2)
      · exact k.elim⟩
theorem sets_plain (nd : X.N.Nodup) (hi : X.N[i]? = some y) (hx : Loc X.env.scope y) (hf : X.fn y = true ∨ X.env.scope.names.lookup y = some .local) {t : TE} (ha : PE X a t) (hs : swapsWith a (some (.Name y py)) pos.line X.env = pure false) : SetsA X y py a pos i t :=
  ps_set nd hi hx ha hs hf
end
end Fp

set_option Elab.async false
set_option linter.all false
set_option maxRecDepth 100000
set_option maxHeartbeats 2000000
/-! Loops, lists that change, several names, refusals. -/
namespace Fp
open PySem PySem.Spec PyProof.Rows L2
section
variable {X : Cx} {F0 H0 : Hp} {ea : Ea} {W : WD} {st : Stmt} {r : List Stmt} {a b c : Expr} {xa xb xc : Fp.Env → R D} {f g : Fp.Env → Fl} {pos : Pos} {i j l : Nat} {y z : Str} {py pz : Pos}
/-! ### loops -/
theorem ps_forD {tgx : Expr} {tg : Tg} {xi : Fp.Env → R (List D)} {body : List Stmt} (po : PassesOwn (model X.prog X.w) X.A X.env X.xe) (hc : X.calm = true) (hs : shp a = true) (hi : PI X tgx a (rdI X.K F0 H0 ea W false xi)) (hg : PG X tgx (rdP X.K F0 H0 ea tg))
    (hb : PSs X body (rdS X.K F0 H0 ea W f)) : PS X (.For tgx a body [] pos) (rdS X.K F0 H0 ea W fun env => match xi env with
      | .ok xs => forGo (fun x env => match asg tg x env with
        | .ok e => f e
        | _ => .no) xs env
      | .ex c => .ex c env
      | .no => .no) :=
  PSi (ps_for po hc hi hg hb (shp_fold hs)) fun D σ H ⟨F, env, r, q⟩ => by
    refine ⟨F, env, r, ?_⟩
    revert q
    dsimp only
    cases xi env with
    | no => exact fun q => q
    | ex c => exact fun q F' H' e => q σ F' H' e.ff (r.grow e)
    | ok xs =>
      intro q F1 H1 e1 J wk
      refine ⟨fun i m σ H => m = xs.length - i ∧ i ≤ xs.length ∧ ∃ F' env', Rel X.K F0 H0 ea env' σ F' H ∧ Same F1 F' ∧ AnsS X.K F0 H0 ea W F' (forGo (fun x env => match asg tg x env with
        | .ok e => f e
        | _ => .no) (xs.drop i) env') D, ⟨xs.length, by simp, Nat.zero_le _, F1, env, r.grow e1, Same.refl _, by rw [List.drop_zero]; exact AnsS.grow q e1.ff⟩, ?_⟩
      rintro i m σ' H' ⟨rfl, hi, F', env', r', sf, q'⟩
      have pk : Pk false F1 H1 F' H' := ⟨sf, r'.sub⟩
      by_cases hlt : i < xs.length
      · have hd : xs.drop i = xs[i] :: xs.drop (i + 1) := List.drop_eq_getElem_cons hlt
        rw [hd] at q'
        obtain ⟨g1, g2⟩ := wk.go i xs[i] F' H' (List.getElem?_eq_getElem hlt) pk
        refine .inr ⟨g1, fun σ2 H2 => ∃ F' env', Rel X.K F0 H0 ea env' σ2 F' H2 ∧ Same F1 F' ∧ AnsS X.K F0 H0 ea W F' (forGo (fun x env => match asg tg x env with
          | .ok e => f e
          | _ => .no) (xs.drop (i + 1)) env') D, fun σ2 H2 p => ⟨xs.length - (i + 1), by omega, rfl, hlt, p⟩, fun x H3 hy => ?_⟩
        obtain ⟨F3, e3, rx⟩ := g2 x H3 hy
        rw [forGo] at q'
        cases ha : asg tg xs[i] env' with
        | ok env2 =>
          rw [ha] at q'
          refine ⟨F3, env', xs[i], env2, r'.grow e3, rx, ha, fun σ2 r2 _ _ => ⟨F3, env2, r2, ?_⟩⟩
          exact AnsS.then_ (AnsS.grow q' e3.ff) rfl fun e σ3 F4 H4 s4 r4 q4 => ⟨F4, e, r4, (sf.trans e3.ff).trans s4, q4⟩
        | ex c => rw [ha] at q'; exact q'.elim
        | no => rw [ha] at q'; exact q'.elim
      · have e : i = xs.length := by omega
        subst e
        rw [List.drop_eq_nil_of_le (Nat.le_refl _), forGo] at q'
        exact .inl ⟨wk.stop F' H' pk, q' σ' F' H' (Same.refl _) r'⟩
theorem ps_whlD {body : List Stmt} (po : PassesOwn (model X.prog X.w) X.A X.env X.xe) (hc : PT X a (rdT X.K F0 H0 ea W fun env => (xa env).bind asB)) (hb : PSs X body (rdS X.K F0 H0 ea W f)) (n : Nat) :
    PS X (.While a body [] pos) (rdS X.K F0 H0 ea W (whlGo xa f n)) :=
  PSi (ps_while po hc hb) fun D σ H ⟨F, env, r, q⟩ => by
    refine ⟨fun m σ H => ∃ F env, Rel X.K F0 H0 ea env σ F H ∧ AnsS X.K F0 H0 ea W F (whlGo xa f m env) D, ⟨n, F, env, r, q⟩, ?_⟩
    rintro m σ1 H1 ⟨F1, env1, r1, q1⟩
    cases m with
    | zero => exact q1.elim
    | succ m =>
      refine ⟨F1, env1, r1, ?_⟩
      rw [whlGo] at q1
      revert q1
      dsimp only
      cases xa env1 with
      | no => exact fun q => q
      | ex c => exact fun q F' H' e => q σ1 F' H' e.ff (r1.grow e)
      | ok d =>
        cases d with
        | bool k =>
          cases k with
          | false => exact fun q F' H' e => q σ1 F' H' e.ff (r1.grow e)
          | true =>
            intro q F' H' e
            have q : AnsS X.K F0 H0 ea W F1 ((f env1).andThen (whlGo xa f m)) D := q
            refine ⟨fun σ2 H2 => ∃ F env, Rel X.K F0 H0 ea env σ2 F H2 ∧ AnsS X.K F0 H0 ea W F (whlGo xa f m env) D, fun σ2 H2 p => ⟨m, Nat.lt_succ_self m, p⟩, F', env1, r1.grow e, ?_⟩
            exact AnsS.then_ (AnsS.grow q e.ff) rfl fun e σ3 F4 H4 s4 r4 q4 => ⟨F4, e, r4, q4⟩
        | _ => exact fun q => q.elim
/-! ### lists that change -/
theorem withO_ok {env : Fp.Env} {i : Nat} {k : List D → Fl} {F : Hp} {D : Ends} (h : AnsS X.K F0 H0 ea W F (withO env i k) D) : ∃ xs, env[i]? = some (Slot.own (.list xs)) ∧ AnsS X.K F0 H0 ea W F (k xs) D := by
  unfold withO at h
  split at h
  · exact ⟨_, by assumption, h⟩
  · exact h.elim
theorem ps_appD (hN : X.N[i]? = some y) (hv : Vis X.env.scope y) (hd : okNm y = true) {apos : Pos} {pn : Pos} (hl : (apos.endLine == pos.line) = true) (hs : shp a = true) (ha : PE X a (rdV X.K F0 H0 ea W false xa)) :
    PS X (.Expr (.Call (.Attribute (.Name y pn) "append" apos) [a] [] pos) py) (rdS X.K F0 H0 ea W fun env => withO env i fun xs => ofR env (xa env) fun d => ofE (if xs.length < 16777216 then setS i (.own (.list (xs ++ [d]))) env else .no)) := by
  have hfew : ((backTo pos (starEach (a :: []) X.env)).all (fun x => !x.1) && (backToKw pos (keywordEach [] X.env)).all (fun x => x.1.isSome)
      && decide ((a :: ([] : List Expr)).length + ([] : List Keyword).length + (if ([] : List Keyword).isEmpty then 0 else 1) < 30)) = true := by
    rw [shp_star hs]
    rfl
  refine PSi (ps_expr (pe_bm PySem.F.plainAttrs_list PySem.F.slot_list_append PySem.F.type_list_append mt_append (pe_var hN hv (nm_ok hd).1 (nm_ok hd).2.1) (pa_cons ha pa_nil (shp_star hs _)) rfl hfew hl (shp_star hs _) rfl) rfl) fun D σ H ⟨F, env, r, q⟩ => ?_
  obtain ⟨xs, hi, q⟩ := withO_ok q
  obtain ⟨p, vs, ds, h1, h2, h3, h4, h5, h6⟩ := r.own hi
  cases h2
  refine ⟨.ref p, h1, .inl ⟨rfl, vs, SqL.of h5⟩, F, env, r, AnsS.ofR (x := xa env) (D := D) r q fun d F' H' _ e k v hv => ?_⟩
  have hv : Rp X.K F' v d := hv
  have hil : i < env.length := (List.getElem?_eq_some_iff.mp hi).1
  have hlen := h6.length
  split at k
  · rename_i hz
    unfold setS at k
    rw [if_pos hil] at k
    refine ⟨p, vs, v, rfl, rfl, e.hh _ _ h5, by rw [sz_eq, hlen]; exact hz, ?_⟩
    exact k σ F' _ (Same.refl _) ((r.grow e).mut hi h1 ((h6.mono e.ff).append (.cons hv .nil)))
  · exact k.elim
theorem ps_popD {pos2 apos2 apos : Pos} {pn pm : Pos} (hij : i ≠ j) (hN : X.N[i]? = some y) (hv : Vis X.env.scope y) (hd : okNm y = true) (hN2 : X.N[j]? = some z) (hv2 : Vis X.env.scope z) (hd2 : okNm z = true) (hl : (apos.endLine == pos.line) = true) (hl2 : (apos2.endLine == pos2.line) = true)
    (hs : shp a = true) (ha : PE X a (rdV X.K F0 H0 ea W false xa)) :
    PS X (.Expr (.Call (.Attribute (.Name y pn) "append" apos) [.Call (.Attribute (.Name z pm) "pop" apos2) [a] [] pos2] [] pos) py) (rdS X.K F0 H0 ea W fun env => withO env i fun xs => withO env j fun ys => if i = j then .no else ofR env (xa env) fun k => match k with
    | .int n => (match ixN ys.length n with
      | some m => (match ys[m]? with
        | some d => if xs.length < 16777216 ∧ ys.length ≤ 16777216 then .nx ((env.set j (.own (.list (ys.eraseIdx m)))).set i (.own (.list (xs ++ [d])))) else .no
        | none => .no)
      | none => .no)
    | _ => .no) := by
  have hfew : ((backTo pos2 (starEach (a :: []) X.env)).all (fun x => !x.1) && (backToKw pos2 (keywordEach [] X.env)).all (fun x => x.1.isSome)
      && decide ((a :: ([] : List Expr)).length + ([] : List Keyword).length + (if ([] : List Keyword).isEmpty then 0 else 1) < 30)) = true := by
    rw [shp_star hs]
    rfl
  have hp : PE X (.Call (.Attribute (.Name z pm) "pop" apos2) [a] [] pos2) (tBM X.K "list" rPopAt (tVar j) (tCons (rdV X.K F0 H0 ea W false xa) tNil)) :=
    pe_bm PySem.F.plainAttrs_list PySem.F.slot_list_pop PySem.F.type_list_pop mt_popAt (pe_var hN2 hv2 (nm_ok hd2).1 (nm_ok hd2).2.1) (pa_cons ha pa_nil (shp_star hs _)) rfl hfew hl2 (shp_star hs _) rfl
  refine PSi (ps_expr (pe_bm PySem.F.plainAttrs_list PySem.F.slot_list_append PySem.F.type_list_append mt_append (pe_var hN hv (nm_ok hd).1 (nm_ok hd).2.1) (pa_cons hp pa_nil rfl) rfl rfl hl rfl rfl) rfl) fun D σ H ⟨F, env, r, q⟩ => ?_
  obtain ⟨xs, hi, q⟩ := withO_ok q
  obtain ⟨ys, hj, q⟩ := withO_ok q
  rw [if_neg hij] at q
  obtain ⟨p, vs, ds, h1, h2, h3, h4, h5, h6⟩ := r.own hi
  cases h2
  obtain ⟨p2, vs2, ds2, k1, k2, k3, k4, k5, k6⟩ := r.own hj
  cases k2
  have hne : p ≠ p2 := fun e => by
    subst e
    exact r.apart i j _ _ _ _ p hij hi hj h1 k1 ⟨⟨_, rfl⟩, rfl⟩ ⟨⟨_, rfl⟩, rfl⟩
  refine ⟨.ref p, h1, .inl ⟨rfl, vs, SqL.of h5⟩, .ref p2, k1, .inl ⟨rfl, vs2, SqL.of k5⟩, F, env, r, AnsS.ofR (x := xa env) (D := D) r q fun d F' H' _ e k v hv => ?_⟩
  have hv : Rp X.K F' v d := hv
  cases d with
  | int n =>
    cases hv
    dsimp only at k
    split at k
    · rename_i m hm
      split at k
      · rename_i d hdm
        split at k
        · rename_i hz
          obtain ⟨s1, s2, s3, s4⟩ := ixN_seq hm
          obtain ⟨w, hw, rw'⟩ := k6.get hdm
          have l2 := k6.length
          refine ⟨p2, vs2, n, m, w, rfl, rfl, e.hh _ _ k5, ?_, ?_, by rw [l2]; exact s1, hw, ?_⟩
          · have := hz.2; omega
          · have := hz.2; omega
          · have r2 := (r.grow e).mut hj k1 ((k6.mono e.ff).eraseIdx m)
            have hi2 : (env.set j (.own (.list (ys.eraseIdx m))))[i]? = some (Slot.own (.list xs)) := by rw [List.getElem?_set_ne (fun e => hij e.symm)]; exact hi
            refine ⟨p, vs, w, rfl, rfl, by rw [upd_ne hne]; exact e.hh _ _ h5, by rw [sz_eq, h6.length]; exact hz.1, ?_⟩
            exact k σ F' _ (Same.refl _) (r2.mut hi2 h1 ((h6.mono e.ff).append (.cons (rw'.mono e.ff) .nil)))
        · exact k.elim
      · exact k.elim
    · exact k.elim
  | _ => exact k.elim
end
end Fp

set_option Elab.async false
set_option linter.all false
set_option maxRecDepth 100000
set_option maxHeartbeats 2000000
/-! Several names at once; an item of a list; refusals. -/
namespace Fp
open PySem PySem.Spec PyProof.Rows L2
/-- a value for a slot: new where it is owned -/
def rdQ (K : PySem.W.Frag) (F0 H0 : Hp) (ea : Ea) (W : WD) (o : Bool) (x : Fp.Env → R D) : TE := fun σ H Q => ∃ F env, Rel K F0 H0 ea env σ F H ∧
  AnsW F H ((x env).bind fun d => slotOf o d) (fun s F' H' => ∀ v, SlotOk K H0 F' H' ea s (some v) → ((∃ d, s = .own d) → ∃ p, v = .ref p ∧ H p = none) → Q v H') fun c H' => W c σ H'
section
variable {X : Cx} {F0 H0 : Hp} {ea : Ea} {W : WD} {a b c : Expr} {xa xb xc : Fp.Env → R D} {pos : Pos} {i j l : Nat} {y z u : Str}
theorem slot_ok {K : PySem.W.Frag} {F H : Hp} {v : V} {d : D} {s : Slot} (h : SlotOk K H0 F H ea s (some v)) : True := trivial
theorem pe_qV (ha : PE X a (rdV X.K F0 H0 ea W false xa)) : PE X a (rdQ X.K F0 H0 ea W false xa) :=
  PEi ha fun σ H Q ⟨F, env, r, q⟩ => ⟨F, env, r, q.bind fun d F' H' _ e k v hv => by
    have hv : Rp X.K F' v d := hv
    have k : AnsW F' H' (R.ok (Slot.val d)) _ _ := k
    exact AnsW.here e.sub k v ⟨v, rfl, hv⟩ fun ⟨_, z⟩ => nomatch z⟩
theorem pe_qG (ha : PE X a (rdG X.K F0 H0 ea W xa)) : PE X a (rdQ X.K F0 H0 ea W true xa) :=
  PEi ha fun σ H Q ⟨F, env, r, q⟩ => ⟨F, env, r, q.bind fun d F' H' _ e k => by
    unfold slotOf at k
    rw [if_pos rfl] at k
    refine ⟨fun v nl hv => ?_, fun ds p vs ed hp ho hf hr => ?_⟩
    · cases d with
      | list xs => exact absurd rfl (nl xs)
      | _ => exact k.elim
    · subst ed
      exact AnsW.here e.sub k (.ref p) ⟨p, vs, ds, rfl, rfl, hf, r.ext.hh.free hp, ho, hr⟩ fun _ => ⟨p, rfl, hp⟩⟩
theorem ne_new {K : PySem.W.Frag} {F H : Hp} {v : V} {s : Slot} {p : Addr} (h : SlotOk K H0 F H ea s (some v)) (hs : ∃ d, s = .own d) (hp : H p = none) : (.ref p : V) ≠ v := by
  obtain ⟨d, rfl⟩ := hs
  obtain ⟨a, vs, ds, h1, h2, h3, h4, h5, h6⟩ := h
  cases h1
  intro e
  cases e
  rw [hp] at h5
  cases h5
section
variable {env : PySem.Env} {px py pz pt pt2 : Pos} {kt k2 : Nat}
theorem star_not : ∀ l : List Expr, (∀ x ∈ l, shp x = true) → (l.any fun | .Starred .. => true | _ => false) = false
  | [], _ => rfl
  | x :: l, h => by
    have h1 := h x List.mem_cons_self
    have ih := star_not l fun y hy => h y (List.mem_cons_of_mem _ hy)
    rw [List.any_cons, ih, Bool.or_false]
    cases x <;> first
      | rfl
      | (cases h1; done)
theorem swap2 (hk : env.scope.kind = .function) (hx : env.scope.names.lookup y = some .local) (hy : env.scope.names.lookup z = some .local) (hne : y ≠ z) (hl : (py.line == px.line) = true) (ha : shp a = true) (hb : shp b = true)
    (hf : ([a, b].all (foldedForSure 8)) = false) (hc : ([a, b].all (constantsAlone 8)) = false) : swappedStores [.Tuple [.Name y px, .Name z py] kt pt] (.Tuple [a, b] k2 pt2) env = pure (some [y, z]) := by
  have ky : env.kindOf y = some .local := hx
  have kz : env.kindOf z = some .local := hy
  have hb' : env.blockKind = .function := by unfold Env.blockKind; rw [hk]; rfl
  have s1 := star_not [a, b] fun x hx => by
    rcases List.mem_cons.mp hx with rfl | hx
    · exact ha
    · rcases List.mem_singleton.mp hx with rfl; exact hb
  have e1 : (z == y) = false := by simpa using fun e : z = y => hne e.symm
  have e2 : (y == z) = false := by simpa using hne
  have hl2 : (px.line == px.line) = true := by simp
  have hl3 : py.line = px.line := by simpa using hl
  have hne2 : ¬ z = y := fun e => hne e.symm
  unfold swappedStores
  simp only [List.length_cons, List.length_nil, hb', List.head?_cons, Option.map_some, Option.getD_some, Expr.pos, List.filterMap_cons, List.filterMap_nil, ky, kz, hl, hl2, Bool.and_self, beq_self_eq_true, if_true, hf, hc]
  have hd : [y, z].eraseDups = [y, z] := by simp [List.eraseDups_cons, hne2]
  rw [hd]
  refine Eq.trans (if_neg (by decide)) (Eq.trans (if_neg fun e => Bool.noConfusion (s1.symm.trans e)) ?_)
  rfl
theorem swap3 {pw : Pos} (hk : env.scope.kind = .function) (hx : env.scope.names.lookup y = some .local) (hy : env.scope.names.lookup z = some .local) (hu : env.scope.names.lookup u = some .local) (hne : y ≠ z) (hne2 : y ≠ u) (hne3 : z ≠ u) (hl : (py.line == px.line) = true) (hl4 : (pw.line == px.line) = true)
    (ha : shp a = true) (hb : shp b = true) (hc' : shp c = true)
    (hf : ([a, b, c].all (foldedForSure 8)) = false) (hc : ([a, b, c].all (constantsAlone 8)) = false) : swappedStores [.Tuple [.Name y px, .Name z py, .Name u pw] kt pt] (.Tuple [a, b, c] k2 pt2) env = pure (some [y, z, u]) := by
  have ky : env.kindOf y = some .local := hx
  have kz : env.kindOf z = some .local := hy
  have ku : env.kindOf u = some .local := hu
  have hb' : env.blockKind = .function := by unfold Env.blockKind; rw [hk]; rfl
  have s1 := star_not [a, b, c] fun x hx => by
    rcases List.mem_cons.mp hx with rfl | hx
    · exact ha
    · rcases List.mem_cons.mp hx with rfl | hx
      · exact hb
      · rcases List.mem_singleton.mp hx with rfl; exact hc'
  have hl2 : (px.line == px.line) = true := by simp
  have n1 : ¬ z = y := fun e => hne e.symm
  have n2 : ¬ u = y := fun e => hne2 e.symm
  have n3 : ¬ u = z := fun e => hne3 e.symm
  unfold swappedStores
  simp only [List.length_cons, List.length_nil, hb', List.head?_cons, Option.map_some, Option.getD_some, Expr.pos, List.filterMap_cons, List.filterMap_nil, ky, kz, ku, hl, hl2, hl4, Bool.and_self, beq_self_eq_true, if_true, hf, hc]
  have hd : [y, z, u].eraseDups = [y, z, u] := by simp [List.eraseDups_cons, n1, n2, n3]
  rw [hd]
  refine Eq.trans (if_neg (by decide)) (Eq.trans (if_neg fun e => Bool.noConfusion (s1.symm.trans e)) ?_)
  rfl
end
theorem setAll2 {K : PySem.W.Frag} {env : Fp.Env} {F : Hp} {D : Ends} {s t : Slot} (h : AnsS K F0 H0 ea W F (ofE (setAll [(i, s), (j, t)] env)) D) : AnsS K F0 H0 ea W F (.nx ((env.set i s).set j t)) D := by
  by_cases h1 : i < env.length
  · rw [setAll, setS, if_pos h1, R.bind_ok] at h
    by_cases h2 : j < (env.set i s).length
    · rw [setAll, setS, if_pos h2, R.bind_ok, setAll] at h
      exact h
    · rw [setAll, setS, if_neg h2] at h
      exact h.elim
  · rw [setAll, setS, if_neg h1] at h
    exact h.elim
theorem setAll3 {K : PySem.W.Frag} {env : Fp.Env} {F : Hp} {D : Ends} {s t v : Slot} (h : AnsS K F0 H0 ea W F (ofE (setAll [(i, s), (j, t), (l, v)] env)) D) : AnsS K F0 H0 ea W F (.nx (((env.set i s).set j t).set l v)) D := by
  by_cases h1 : i < env.length
  · rw [setAll, setS, if_pos h1, R.bind_ok] at h
    exact setAll2 h
  · rw [setAll, setS, if_neg h1] at h
    exact h.elim
/-- a, b = x, y -/
theorem ps_par2D {o1 o2 : Bool} {px py pt pt2 : Pos} {kt k2 : Nat} (hc : X.calm = true) (nd : X.N.Nodup) (hi : X.N[i]? = some y) (hj : X.N[j]? = some z) (hij : i ≠ j) (hx : X.env.scope.names.lookup y = some .local) (hy : X.env.scope.names.lookup z = some .local)
    (hw : swappedStores [.Tuple [.Name y px, .Name z py] kt pt] (.Tuple [a, b] k2 pt2) X.env = pure (some [y, z])) (hsa : shp a = true) (hsb : shp b = true)
    (ha : PE X a (rdQ X.K F0 H0 ea W o1 xa)) (hb : PE X b (rdQ X.K F0 H0 ea W o2 xb)) :
    PS X (.Assign [.Tuple [.Name y px, .Name z py] kt pt] (.Tuple [a, b] k2 pt2) pos) (rdS X.K F0 H0 ea W fun env => match ((xa env).bind fun d => (slotOf o1 d).bind fun s => ((xb env).bind fun d => (slotOf o2 d).bind fun t => R.ok [(j, t)]).bind fun l => R.ok ((i, s) :: l)) with
      | .ok l => ofE (setAll l env)
      | .ex c => .ex c env
      | .no => .no) :=
  PSi (ps_par hc nd hi hj hij hx hy (pa_cons ha (pa_cons hb pa_nil (shp_star hsb _)) (shp_star hsa _)) hw) fun D σ H ⟨F, env, r, q⟩ => by
    refine ⟨F, env, r, ?_⟩
    revert q
    dsimp only
    cases xa env with
    | no => exact fun q => q
    | ex c => exact fun q F' H' e => q σ F' H' e.ff (r.grow e)
    | ok d1 =>
      rw [R.bind_ok, R.bind_ok]
      cases slotOf o1 d1 with
      | no => exact fun q => q
      | ex c => exact fun q F' H' e => q σ F' H' e.ff (r.grow e)
      | ok s1 =>
        rw [R.bind_ok]
        intro q F1 H1 e1 v1 ok1 fr1
        refine ⟨F1, env, r.grow e1, ?_⟩
        revert q
        dsimp only
        cases xb env with
        | no => exact fun q => q
        | ex c => exact fun q F' H' e => q σ F' H' (e1.trans e).ff (r.grow (e1.trans e))
        | ok d2 =>
          rw [R.bind_ok, R.bind_ok]
          cases slotOf o2 d2 with
          | no => exact fun q => q
          | ex c => exact fun q F' H' e => q σ F' H' (e1.trans e).ff (r.grow (e1.trans e))
          | ok s2 =>
            rw [R.bind_ok, R.bind_ok]
            intro q F2 H2 e2 v2 ok2 fr2
            refine ⟨v1, v2, rfl, ?_⟩
            have q := setAll2 q
            have r2 := r.grow (e1.trans e2)
            refine q _ F2 H2 (e1.trans e2).ff ((r2.setS (ok1.grow e2) fun hs => ?_).setS ok2 fun hs => ?_)
            · obtain ⟨p, rfl, hp⟩ := fr1 hs
              exact r.notOwn hp
            · obtain ⟨p, rfl, hp⟩ := fr2 hs
              exact NotOwn.set ((r.grow e1).notOwn hp) fun hs1 => ne_new ok1 hs1 hp
theorem sole_tup {t : Expr} {xs : List Expr} {k : Nat} {p : Pos} {l : Nat} {env : PySem.Env} : swapsWithSole [t] (.Tuple xs k p) l env = pure false := by
  unfold swapsWithSole
  rfl
theorem swapN2 {env : PySem.Env} {px py pt pt2 : Pos} {kt k2 : Nat} (h : env.scope.names.lookup y ≠ some .local ∨ env.scope.names.lookup z ≠ some .local) (ha : shp a = true) (hb : shp b = true) :
    swappedStores [.Tuple [.Name y px, .Name z py] kt pt] (.Tuple [a, b] k2 pt2) env = pure none := by
  have s1 := star_not [a, b] fun x hx => by
    rcases List.mem_cons.mp hx with rfl | hx
    · exact ha
    · rcases List.mem_singleton.mp hx with rfl; exact hb
  have key : ∀ l : Nat, (([.Name y px, .Name z py] : List Expr).filterMap fun
      | .Name id pos => if env.kindOf id == some .local && pos.line == l then some id else none
      | _ => none).length ≠ 2 := by
    intro l
    rcases h with h | h
    · have h' : (env.kindOf y == some .local) = false := by
        cases e : (env.kindOf y == some NameKind.local) with
        | false => rfl
        | true => exact absurd (eq_of_beq e) h
      rw [List.filterMap_cons]
      simp only [h', Bool.false_and, Bool.false_eq_true, if_false]
      rw [List.filterMap_cons]
      split <;> simp
    · have h' : (env.kindOf z == some .local) = false := by
        cases e : (env.kindOf z == some NameKind.local) with
        | false => rfl
        | true => exact absurd (eq_of_beq e) h
      rw [List.filterMap_cons, List.filterMap_cons]
      simp only [h', Bool.false_and, Bool.false_eq_true, if_false]
      split <;> simp
  unfold swappedStores
  dsimp only
  by_cases hk : env.blockKind = .function
  · refine Eq.trans (if_neg (by simp [hk])) (Eq.trans (if_neg fun e => Bool.noConfusion (s1.symm.trans e)) ?_)
    refine if_pos ?_
    rw [Bool.or_eq_true]
    exact .inl (bne_iff_ne.mpr (key _))
  · refine if_pos ?_
    simp [hk]
/-- a, b = x, y by a pair that is made and taken apart -/
theorem ps_par2T {o1 o2 : Bool} {px py pt pt2 : Pos} {kt k2 : Nat} (hc : X.calm = true) (nd : X.N.Nodup) (hi : X.N[i]? = some y) (hj : X.N[j]? = some z) (hij : i ≠ j) (hx : Loc X.env.scope y) (hy : Loc X.env.scope z) (fx : X.fn y = true ∨ X.env.scope.names.lookup y = some .local) (fy : X.fn z = true ∨ X.env.scope.names.lookup z = some .local)
    (hw : swappedStores [.Tuple [.Name y px, .Name z py] kt pt] (.Tuple [a, b] k2 pt2) X.env = pure none) (hsa : shp a = true) (hsb : shp b = true)
    (ha : PE X a (rdQ X.K F0 H0 ea W o1 xa)) (hb : PE X b (rdQ X.K F0 H0 ea W o2 xb)) :
    PS X (.Assign [.Tuple [.Name y px, .Name z py] kt pt] (.Tuple [a, b] k2 pt2) pos) (rdS X.K F0 H0 ea W fun env => match ((xa env).bind fun d => (slotOf o1 d).bind fun s => ((xb env).bind fun d => (slotOf o2 d).bind fun t => R.ok [(j, t)]).bind fun l => R.ok ((i, s) :: l)) with
      | .ok l => ofE (setAll l env)
      | .ex c => .ex c env
      | .no => .no) :=
  PSi (ps_asg (pe_tup (pa_cons ha (pa_cons hb pa_nil (shp_star hsb _)) (shp_star hsa _))) (pg_tup (n := 2) hc (pgs_cons (pg_name nd hi hx fx) (pgs_cons (pg_name nd hj hy fy) pgs_nil rfl) rfl) rfl rfl) (sole_tup) hw) fun D σ H ⟨F, env, r, q⟩ => by
    refine ⟨F, env, r, ?_⟩
    revert q
    dsimp only
    cases xa env with
    | no => exact fun q => q
    | ex c => exact fun q F' H' e => q σ F' H' e.ff (r.grow e)
    | ok d1 =>
      rw [R.bind_ok, R.bind_ok]
      cases slotOf o1 d1 with
      | no => exact fun q => q
      | ex c => exact fun q F' H' e => q σ F' H' e.ff (r.grow e)
      | ok s1 =>
        rw [R.bind_ok]
        intro q F1 H1 e1 v1 ok1 fr1
        refine ⟨F1, env, r.grow e1, ?_⟩
        revert q
        dsimp only
        cases xb env with
        | no => exact fun q => q
        | ex c => exact fun q F' H' e => q σ F' H' (e1.trans e).ff (r.grow (e1.trans e))
        | ok d2 =>
          rw [R.bind_ok, R.bind_ok]
          cases slotOf o2 d2 with
          | no => exact fun q => q
          | ex c => exact fun q F' H' e => q σ F' H' (e1.trans e).ff (r.grow (e1.trans e))
          | ok s2 =>
            rw [R.bind_ok, R.bind_ok]
            intro q F2 H2 e2 v2 ok2 fr2
            refine ⟨by show 2 ≤ sizeLine; rw [sz_eq]; omega, fun p hp => ⟨p, _, rfl, SqT.of upd_same, rfl, v1, _, rfl, v2, _, rfl, rfl, ?_⟩⟩
            have q := setAll2 q
            have e3 := (Ext.refl e2.sub).loose (o := .tup [v1, v2]) hp
            have r2 := r.grow ((e1.trans e2).trans e3)
            refine q _ F2 _ (e1.trans e2).ff ((r2.setS ((ok1.grow e2).grow e3) fun hs => ?_).setS (ok2.grow e3) fun hs => ?_)
            · obtain ⟨p, rfl, hp⟩ := fr1 hs
              exact r.notOwn hp
            · obtain ⟨p, rfl, hp⟩ := fr2 hs
              exact NotOwn.set ((r.grow e1).notOwn hp) fun hs1 => ne_new ok1 hs1 hp
/-- a, b, c = x, y, z -/
theorem ps_par3D {o1 o2 o3 : Bool} {px py pw pt pt2 : Pos} {kt k2 : Nat} (hc : X.calm = true) (nd : X.N.Nodup) (hi : X.N[i]? = some y) (hj : X.N[j]? = some z) (hl : X.N[l]? = some u) (hij : i ≠ j) (hil : i ≠ l) (hjl : j ≠ l)
    (hx : X.env.scope.names.lookup y = some .local) (hy : X.env.scope.names.lookup z = some .local) (hu : X.env.scope.names.lookup u = some .local)
    (hw : swappedStores [.Tuple [.Name y px, .Name z py, .Name u pw] kt pt] (.Tuple [a, b, c] k2 pt2) X.env = pure (some [y, z, u])) (hsa : shp a = true) (hsb : shp b = true) (hsc : shp c = true)
    (ha : PE X a (rdQ X.K F0 H0 ea W o1 xa)) (hb : PE X b (rdQ X.K F0 H0 ea W o2 xb)) (hc' : PE X c (rdQ X.K F0 H0 ea W o3 xc)) :
    PS X (.Assign [.Tuple [.Name y px, .Name z py, .Name u pw] kt pt] (.Tuple [a, b, c] k2 pt2) pos) (rdS X.K F0 H0 ea W fun env => match ((xa env).bind fun d => (slotOf o1 d).bind fun s => ((xb env).bind fun d => (slotOf o2 d).bind fun t =>
        ((xc env).bind fun d => (slotOf o3 d).bind fun v => R.ok [(l, v)]).bind fun l => R.ok ((j, t) :: l)).bind fun l => R.ok ((i, s) :: l)) with
      | .ok l => ofE (setAll l env)
      | .ex c => .ex c env
      | .no => .no) :=
  PSi (ps_par3 hc nd hi hj hl hij hil hjl hx hy hu (pa_cons ha (pa_cons hb (pa_cons hc' pa_nil (shp_star hsc _)) (shp_star hsb _)) (shp_star hsa _)) hw) fun D σ H ⟨F, env, r, q⟩ => by
    refine ⟨F, env, r, ?_⟩
    revert q
    dsimp only
    cases xa env with
    | no => exact fun q => q
    | ex c => exact fun q F' H' e => q σ F' H' e.ff (r.grow e)
    | ok d1 =>
      rw [R.bind_ok, R.bind_ok]
      cases slotOf o1 d1 with
      | no => exact fun q => q
      | ex c => exact fun q F' H' e => q σ F' H' e.ff (r.grow e)
      | ok s1 =>
        rw [R.bind_ok]
        intro q F1 H1 e1 v1 ok1 fr1
        refine ⟨F1, env, r.grow e1, ?_⟩
        revert q
        dsimp only
        cases xb env with
        | no => exact fun q => q
        | ex c => exact fun q F' H' e => q σ F' H' (e1.trans e).ff (r.grow (e1.trans e))
        | ok d2 =>
          rw [R.bind_ok, R.bind_ok]
          cases slotOf o2 d2 with
          | no => exact fun q => q
          | ex c => exact fun q F' H' e => q σ F' H' (e1.trans e).ff (r.grow (e1.trans e))
          | ok s2 =>
            rw [R.bind_ok]
            intro q F2 H2 e2 v2 ok2 fr2
            refine ⟨F2, env, r.grow (e1.trans e2), ?_⟩
            revert q
            dsimp only
            cases xc env with
            | no => exact fun q => q
            | ex c => exact fun q F' H' e => q σ F' H' ((e1.trans e2).trans e).ff (r.grow ((e1.trans e2).trans e))
            | ok d3 =>
              rw [R.bind_ok, R.bind_ok]
              cases slotOf o3 d3 with
              | no => exact fun q => q
              | ex c => exact fun q F' H' e => q σ F' H' ((e1.trans e2).trans e).ff (r.grow ((e1.trans e2).trans e))
              | ok s3 =>
                rw [R.bind_ok, R.bind_ok, R.bind_ok]
                intro q F3 H3 e3 v3 ok3 fr3
                refine ⟨v1, v2, v3, rfl, ?_⟩
                have q := setAll3 q
                have r3 := r.grow ((e1.trans e2).trans e3)
                refine q _ F3 H3 ((e1.trans e2).trans e3).ff (((r3.setS ((ok1.grow e2).grow e3) fun hs => ?_).setS (ok2.grow e3) fun hs => ?_).setS ok3 fun hs => ?_)
                · obtain ⟨p, rfl, hp⟩ := fr1 hs
                  exact r.notOwn hp
                · obtain ⟨p, rfl, hp⟩ := fr2 hs
                  exact NotOwn.set ((r.grow e1).notOwn hp) fun hs1 => ne_new ok1 hs1 hp
                · obtain ⟨p, rfl, hp⟩ := fr3 hs
                  exact NotOwn.set (NotOwn.set ((r.grow (e1.trans e2)).notOwn hp) fun hs1 => ne_new (ok1.grow e2) hs1 hp) fun hs2 => ne_new ok2 hs2 hp
/-! ### xs[i] = v -/
theorem assign_sub {o b : Expr} {pt : Pos} {env : PySem.Env} (hb : shp b = true) : ∀ v, assign (.Subscript o b pt) env v = (do
      let ov ← holding [v] (eval o env)
      let iv ← holding [v, ov] (eval b env)
      standAt pt
      holding [v, ov, iv] (setItem ov iv v)
      release [v, ov, iv] []) := by
  intro v
  cases b <;> first
    | rfl
    | (cases hb; done)
theorem sole_none {t : Expr} {l : Nat} {env : PySem.Env} (hs : shp a = true) (hn : notLC a = true) : swapsWithSole [t] a l env = pure false := by
  have := sw_none (t := some t) (l := l) (env := env) hs hn
  unfold swapsWithSole
  exact this
theorem ps_stiD {pt pn : Pos} (hsb : shp b = true) (hN : X.N[i]? = some y) (hv : Vis X.env.scope y) (hd : okNm y = true) (hs : shp a = true) (hn : notLC a = true) (ha : PE X a (rdV X.K F0 H0 ea W false xa)) (hb : PE X b (rdV X.K F0 H0 ea W false xb)) :
    PS X (.Assign [.Subscript (.Name y pn) b pt] a pos) (rdS X.K F0 H0 ea W fun env => ofR env (xa env) fun d => withO env i fun xs => ofR env (xb env) fun k => match k with
    | .int n => (match ixN xs.length n with
      | some j => .nx (env.set i (.own (.list (xs.set j d))))
      | none => .no)
    | _ => .no) :=
  PSi (ps_asg ha (pg_sub (pe_var hN hv (nm_ok hd).1 (nm_ok hd).2.1) hb set_list (assign_sub hsb)) (sole_none hs hn)) fun D σ H ⟨F, env, r, q⟩ => ⟨F, env, r, AnsS.ofR (x := xa env) (D := D) r q fun d F1 H1 _ e1 k v hv => by
    have hv : Rp X.K F1 v d := hv
    obtain ⟨xs, hi, k⟩ := withO_ok k
    have r1 := r.grow e1
    obtain ⟨p, vs, ds, h1, h2, h3, h4, h5, h6⟩ := r1.own hi
    cases h2
    refine ⟨.ref p, h1, F1, env, r1, AnsS.ofR (x := xb env) (D := D) r1 k fun n F2 H2 _ e2 k w hw => ?_⟩
    have hw : Rp X.K F2 w n := hw
    cases n with
    | int n =>
      cases hw
      dsimp only at k
      split at k
      · rename_i m hm
        refine ⟨p, vs, n, m, rfl, rfl, e2.hh _ _ h5, by rw [h6.length]; exact hm, ?_⟩
        exact k σ F2 _ (Same.refl _) ((r1.grow e2).mut hi h1 ((h6.mono e2.ff).set (hv.mono e2.ff) m))
      · exact k.elim
    | _ => exact k.elim⟩
end
end Fp

set_option Elab.async false
set_option linter.all false
set_option maxRecDepth 100000
set_option maxHeartbeats 4000000
/-! A statement's text means the statement. -/
namespace Fp
open PySem PySem.Spec PyProof.Rows L2
/-! ### the check of statements -/
def swapB (vs : List Expr) : Bool := !(vs.all (foldedForSure 8)) && !(vs.all (constantsAlone 8))
def lcNoOwn (y : Str) : Expr → Bool
  | .ListComp _ _ scope _ => !(scope.names.any fun (n, k) => n == y && (k == .local || k == .cell))
  | _ => false
def lcLine (p : Pos) : Expr → Bool
  | .ListComp _ _ _ pos => p.line == pos.line
  | _ => false
/-- name = value: plain, or a comprehension that takes the name along -/
def okSet (bk : Bk) (y : Str) (p : Pos) (x : Expr) : Bool := notLC x || !isLocal bk.sc y || (isLocal bk.sc y && lcNoOwn y x && lcLine p x)
def isNameE : Expr → Bool
  | .Name _ _ => true
  | _ => false
def notTup : Expr → Bool
  | .Tuple _ _ _ => false
  | .List _ _ => false
  | _ => true
/-! texts taken apart -/
def gAsg : Stmt → Option (Expr × Expr × Pos)
  | .Assign [t] x p => some (t, x, p)
  | _ => none
theorem gAsg_ok {st : Stmt} {t x : Expr} {p : Pos} (h : gAsg st = some (t, x, p)) : st = .Assign [t] x p := by
  unfold gAsg at h
  split at h
  · cases h; rfl
  · cases h
def gNm : Expr → Option (Str × Pos)
  | .Name y p => some (y, p)
  | _ => none
theorem gNm_ok {e : Expr} {y : Str} {p : Pos} (h : gNm e = some (y, p)) : e = .Name y p := by
  unfold gNm at h
  split at h
  · cases h; rfl
  · cases h
def gTp : Expr → Option (List Expr × Nat × Pos)
  | .Tuple ts k p => some (ts, k, p)
  | _ => none
theorem gTp_ok {e : Expr} {ts : List Expr} {k : Nat} {p : Pos} (h : gTp e = some (ts, k, p)) : e = .Tuple ts k p := by
  unfold gTp at h
  split at h
  · cases h; rfl
  · cases h
def g2 : List Expr → Option (Expr × Expr)
  | [a, b] => some (a, b)
  | _ => none
theorem g2_ok {l : List Expr} {a b : Expr} (h : g2 l = some (a, b)) : l = [a, b] := by
  unfold g2 at h
  split at h
  · cases h; rfl
  · cases h
def g3 : List Expr → Option (Expr × Expr × Expr)
  | [a, b, c] => some (a, b, c)
  | _ => none
theorem g3_ok {l : List Expr} {a b c : Expr} (h : g3 l = some (a, b, c)) : l = [a, b, c] := by
  unfold g3 at h
  split at h
  · cases h; rfl
  · cases h
/-- y.m(x) -/
structure MC where
  y : Str
  pn : Pos
  m : Str
  apos : Pos
  x : Expr
  cpos : Pos
def gMc : Expr → Option MC
  | .Call (.Attribute (.Name y pn) m apos) [x] [] cpos => some ⟨y, pn, m, apos, x, cpos⟩
  | _ => none
theorem gMc_ok {e : Expr} {c : MC} (h : gMc e = some c) : e = .Call (.Attribute (.Name c.y c.pn) c.m c.apos) [c.x] [] c.cpos := by
  unfold gMc at h
  split at h
  · cases h; rfl
  · cases h
def gSb : Expr → Option (Str × Pos × Expr × Pos)
  | .Subscript (.Name y pn) b p => some (y, pn, b, p)
  | _ => none
theorem gSb_ok {e b : Expr} {y : Str} {pn p : Pos} (h : gSb e = some (y, pn, b, p)) : e = .Subscript (.Name y pn) b p := by
  unfold gSb at h
  split at h
  · cases h; rfl
  · cases h
def gEx : Stmt → Option (Expr × Pos)
  | .Expr x p => some (x, p)
  | _ => none
theorem gEx_ok {st : Stmt} {x : Expr} {p : Pos} (h : gEx st = some (x, p)) : st = .Expr x p := by
  unfold gEx at h
  split at h
  · cases h; rfl
  · cases h
def gIf : Stmt → Option (Expr × List Stmt × List Stmt × Pos)
  | .If c a b p => some (c, a, b, p)
  | _ => none
theorem gIf_ok {st : Stmt} {c : Expr} {a b : List Stmt} {p : Pos} (h : gIf st = some (c, a, b, p)) : st = .If c a b p := by
  unfold gIf at h
  split at h
  · cases h; rfl
  · cases h
def gFr : Stmt → Option (Expr × Expr × List Stmt × Pos)
  | .For t x b [] p => some (t, x, b, p)
  | _ => none
theorem gFr_ok {st : Stmt} {t x : Expr} {b : List Stmt} {p : Pos} (h : gFr st = some (t, x, b, p)) : st = .For t x b [] p := by
  unfold gFr at h
  split at h
  · cases h; rfl
  · cases h
def gWh : Stmt → Option (Expr × List Stmt × Pos)
  | .While x b [] p => some (x, b, p)
  | _ => none
theorem gWh_ok {st : Stmt} {x : Expr} {b : List Stmt} {p : Pos} (h : gWh st = some (x, b, p)) : st = .While x b [] p := by
  unfold gWh at h
  split at h
  · cases h; rfl
  · cases h
def gRt : Stmt → Option (Expr × Pos)
  | .Return (some x) p => some (x, p)
  | _ => none
theorem gRt_ok {st : Stmt} {x : Expr} {p : Pos} (h : gRt st = some (x, p)) : st = .Return (some x) p := by
  unfold gRt at h
  split at h
  · cases h; rfl
  · cases h
structure RC where
  y : Str
  p : Pos
  m : Str
  k : Nat
  p2 : Pos
  pos : Pos
  pos' : Pos
def gRs : Stmt → Option RC
  | .Raise (some (.Call (.Name y p) [.Constant (.str m) k p2] [] pos)) none pos' => some ⟨y, p, m, k, p2, pos, pos'⟩
  | _ => none
theorem gRs_ok {st : Stmt} {c : RC} (h : gRs st = some c) : st = .Raise (some (.Call (.Name c.y c.p) [.Constant (.str c.m) c.k c.p2] [] c.pos)) none c.pos' := by
  unfold gRs at h
  split at h
  · cases h; rfl
  · cases h
def isPass : Stmt → Bool
  | .Pass _ => true
  | _ => false
structure TC where
  b : List Stmt
  x : Str
  np : Pos
  n : Option Str
  h0 : Stmt
  h : List Stmt
  pos' : Pos
  pos : Pos
def gTr : Stmt → Option TC
  | .Try b [.ExceptHandler (some (.Name x np)) n (h0 :: h) pos'] [] [] pos => some ⟨b, x, np, n, h0, h, pos', pos⟩
  | _ => none
theorem gTr_ok {st : Stmt} {c : TC} (h : gTr st = some c) : st = .Try c.b [.ExceptHandler (some (.Name c.x c.np)) c.n (c.h0 :: c.h) c.pos'] [] [] c.pos := by
  unfold gTr at h
  split at h
  · cases h; rfl
  · cases h
def chkAsn (G : Gx) (bk : Bk) (tg : Tg) (e : E) (t x : Expr) : Bool := match tg with
  | .nm i => (match gNm t with
    | some (y, p) => decide (G.N[i]? = some y) && bk.st y && chkE G bk false e x && okSet bk y p x
    | none => false)
  | tg => (match gTp t with
    | some (ts, k, p) => !bk.hot && chkTg G bk tg (.Tuple ts k p) && chkE G bk false e x && notLC x && notTup x
    | none => false)
def chkPar2 (G : Gx) (bk : Bk) (i : Nat) (o1 : Bool) (e1 : E) (j : Nat) (o2 : Bool) (e2 : E) (ty tz a b : Expr) : Bool := match gNm ty, gNm tz with
  | some (y, p), some (z, q) => !bk.hot && decide (G.N[i]? = some y) && decide (G.N[j]? = some z) && isLocal bk.sc y && isLocal bk.sc z && decide (i ≠ j) && decide (y ≠ z) && (q.line == p.line) && swapB [a, b] && (!o1 || mk e1) && (!o2 || mk e2) && chkE G bk false e1 a && chkE G bk false e2 b
  | _, _ => false
def chkPar2T (G : Gx) (bk : Bk) (i : Nat) (o1 : Bool) (e1 : E) (j : Nat) (o2 : Bool) (e2 : E) (ty tz a b : Expr) : Bool := match gNm ty, gNm tz with
  | some (y, _), some (z, _) => !bk.hot && decide (G.N[i]? = some y) && decide (G.N[j]? = some z) && bk.st y && bk.st z && decide (i ≠ j) && (!isLocal bk.sc y || !isLocal bk.sc z) && (!o1 || mk e1) && (!o2 || mk e2) && chkE G bk false e1 a && chkE G bk false e2 b
  | _, _ => false
def chkPar3 (G : Gx) (bk : Bk) (i : Nat) (o1 : Bool) (e1 : E) (j : Nat) (o2 : Bool) (e2 : E) (l : Nat) (o3 : Bool) (e3 : E) (ty tz tu a b c : Expr) : Bool := match gNm ty, gNm tz, gNm tu with
  | some (y, p), some (z, q), some (u, r) => !bk.hot && decide (G.N[i]? = some y) && decide (G.N[j]? = some z) && decide (G.N[l]? = some u) && isLocal bk.sc y && isLocal bk.sc z && isLocal bk.sc u && decide (i ≠ j) && decide (i ≠ l) && decide (j ≠ l) && decide (y ≠ z) && decide (y ≠ u) && decide (z ≠ u) &&
      (q.line == p.line) && (r.line == p.line) && swapB [a, b, c] && (!o1 || mk e1) && (!o2 || mk e2) && (!o3 || mk e3) && chkE G bk false e1 a && chkE G bk false e2 b && chkE G bk false e3 c
  | _, _, _ => false
def chkPs (G : Gx) (bk : Bk) (l : Ps) (ts xs : List Expr) : Bool := match l with
  | .cons i o1 e1 (.cons j o2 e2 .nil) => (match g2 ts, g2 xs with
    | some (ty, tz), some (a, b) => chkPar2 G bk i o1 e1 j o2 e2 ty tz a b || chkPar2T G bk i o1 e1 j o2 e2 ty tz a b
    | _, _ => false)
  | .cons i o1 e1 (.cons j o2 e2 (.cons l o3 e3 .nil)) => (match g3 ts, g3 xs with
    | some (ty, tz, tu), some (a, b, c) => chkPar3 G bk i o1 e1 j o2 e2 l o3 e3 ty tz tu a b c
    | _, _ => false)
  | _ => false
mutual
def chkS (G : Gx) (bk : Bk) : S → Stmt → Bool
  | .asn tg e, st => (match gAsg st with
    | some (t, x, _) => chkAsn G bk tg e t x
    | none => false)
  | .own i e, st => (match gAsg st with
    | some (t, x, _) => (match gNm t with
      | some (y, p) => decide (G.N[i]? = some y) && bk.st y && mk e && chkE G bk false e x && okSet bk y p x
      | none => false)
    | none => false)
  | .par l, st => (match gAsg st with
    | some (t, x, _) => (match gTp t, gTp x with
      | some (ts, _, _), some (xs, _, _) => chkPs G bk l ts xs
      | _, _ => false)
    | none => false)
  | .sti i ix e, st => (match gAsg st with
    | some (t, x, _) => (match gSb t with
      | some (y, _, b, _) => nameAt G bk i y && chkE G bk false ix b && chkE G bk false e x && notLC x
      | none => false)
    | none => false)
  | .app i e, st => (match gEx st with
    | some (x, _) => (match gMc x with
      | some c => nameAt G bk i c.y && decide (c.m = ("append" : Str)) && (c.apos.endLine == c.cpos.line) && chkE G bk false e c.x
      | none => false)
    | none => false)
  | .appop i j e, st => (match gEx st with
    | some (x, _) => (match gMc x with
      | some c => (match gMc c.x with
        | some d => nameAt G bk i c.y && nameAt G bk j d.y && decide (i ≠ j) && decide (c.m = ("append" : Str)) && decide (d.m = ("pop" : Str)) && (c.apos.endLine == c.cpos.line) && (d.apos.endLine == d.cpos.line) && chkE G bk false e d.x
        | none => false)
      | none => false)
    | none => false)
  | .ife c a b, st => (match gIf st with
    | some (x, p, q, _) => chkE G bk false c x && chkSs G bk a p && chkSs G bk b q
    | none => false)
  | .for tg it b, st => (match gFr st with
    | some (t, x, p, _) => !bk.hot && chkIt G bk false t it x && chkTg G bk tg t && chkSs G bk b p
    | none => false)
  | .whl c b, st => (match gWh st with
    | some (x, p, _) => !bk.hot && chkE G bk false c x && chkSs G bk b p
    | none => false)
  | .ret e, st => (match gRt st with
    | some (x, _) => chkE G bk false e x
    | none => false)
  | .rse c, st => (match gRs st with
    | some r => !bk.hot && decide (r.y = c) && isGl bk.sc c && okNm c && G.exs.contains c
    | none => false)
  | .exp e, st => (match gEx st with
    | some (x, _) => notLC x && chkE G bk false e x
    | none => false)
  | .pas, st => isPass st
  | .tryx b i c ks h, st => (match gTr st with
    | some t => (match t.n with
      | some n => !bk.hot && decide (ks = G.exs) && decide (t.x = c) && isGl bk.sc c && okNm c && G.exs.contains c && decide (G.N[i]? = some n) && isLocal bk.sc n && chkSs G bk b t.b && chkSs G { bk with hot := true } h (t.h0 :: t.h)
      | none => false)
    | none => false)
  | .tryo b c ks h, st => (match gTr st with
    | some t => (match t.n with
      | none => !bk.hot && decide (ks = G.exs) && decide (t.x = c) && isGl bk.sc c && okNm c && G.exs.contains c && chkSs G bk b t.b && chkSs G { bk with hot := true } h (t.h0 :: t.h)
      | some _ => false)
    | none => false)
  | .frz _, _ => false
  | .extd _ _, _ => false
def chkSs (G : Gx) (bk : Bk) : Ss → List Stmt → Bool
  | .nil, xs => xs.isEmpty
  | .cons s r, xs => match s with
    | .frz _ => chkSs G bk r xs
    | s => (match xs with
      | x :: xs => chkS G bk s x && chkSs G bk r xs
      | [] => false)
end
mutual
def S.okT (T : Nat → List D → R D) : S → Prop
  | .asn _ e => e.okT T
  | .own _ e => e.okT T
  | .frz _ => True
  | .par l => l.okT T
  | .sti _ ix e => ix.okT T ∧ e.okT T
  | .app _ e => e.okT T
  | .appop _ _ e => e.okT T
  | .extd _ e => e.okT T
  | .ife c a b => c.okT T ∧ a.okT T ∧ b.okT T
  | .for _ it b => it.okT T ∧ b.okT T
  | .whl c b => c.okT T ∧ b.okT T
  | .ret e => e.okT T
  | .rse _ => True
  | .exp e => e.okT T
  | .pas => True
  | .tryx b _ _ _ h => b.okT T ∧ h.okT T
  | .tryo b _ _ h => b.okT T ∧ h.okT T
def Ss.okT (T : Nat → List D → R D) : Ss → Prop
  | .nil => True
  | .cons s r => s.okT T ∧ r.okT T
def Ps.okT (T : Nat → List D → R D) : Ps → Prop
  | .nil => True
  | .cons _ _ e r => e.okT T ∧ r.okT T
end
/-- an own exception class -/
structure ExF (X : Cx) (cv : Str → Value) (c : Str) : Prop where
  ok : ∃ C, cv c = .ref C ∧ X.mg c = some (.ref C) ∧ PySem.W.excIn X.K C He.veBase "ValueError.__new__" = true ∧ PySem.W.keepIn X.K (.ref C) = true ∧ PySem.W.subIn X.K (.ref C) (.type "BaseException") = some true ∧ PySem.W.typeIn X.K (.ref C) = some (.type "type")
structure Ws (X : Cx) (G : Gx) (T : Nat → List D → R D) (cv : Str → Value) (bk : Bk) (ea : Ea) : Prop where
  w : Wf X G T cv bk ea
  kind : X.env.scope.kind = .function
  stk : bk.hot = false → X.stack = X.env :: X.outer
  frm : bk.hot = false → X.env.frame = some X.env.locals
  po : bk.hot = false → PassesOwn (model X.prog X.w) X.A X.env X.xe
  exn : ∀ c, G.exs.contains c = true → ExF X cv c
  exm : ∀ d c, G.exs.contains d = true → G.exs.contains c = true → PySem.W.exmOne X.K (cv d) (cv c) = some (isSub d c)
  ief : G.ise = true → ∀ n c, G.exs.contains n = true → G.exs.contains c = true → ∃ D C, cv n = .ref D ∧ cv c = .ref C ∧ ExcC X.K D ∧ PySem.W.kitOne X.K (.ref D) (.ref C) = some (isSub n c) ∧ X.mg c = some (.ref C)
section
variable {X : Cx} {G : Gx} {T : Nat → List D → R D} {cv : Str → Value} {bk : Bk} {ea : Ea} {F0 H0 : Hp} {W : WD}
theorem loc_ok {sc : Scope} {x : Str} (h : isLocal sc x = true) : sc.names.lookup x = some .local := by
  unfold isLocal at h
  split at h
  · assumption
  · cases h
theorem Wf.tr (w : Wf X G T cv bk ea) (hb : bk.hot = false) (pn : List (Addr × Obj)) (xe : Value → Shared → Prop) : Wf (X.tr pn xe) G T cv bk ea where
  hN := w.hN
  nd := w.nd
  sc := w.sc
  st := w.st
  calm := w.calm
  rm := ⟨w.rm.room⟩
  cns := w.cns
  fre := w.fre
  fns := fun h j hj x n hx hn => ⟨(w.fns h j hj x n hx hn).ok⟩
  isE := fun h => by rw [hb] at h; cases h
theorem Ws.tr (w : Ws X G T cv bk ea) (hb : bk.hot = false) (pn : List (Addr × Obj)) (xe : Value → Shared → Prop) (po : PassesOwn (model X.prog X.w) X.A X.env xe) : Ws (X.tr pn xe) G T cv bk ea where
  w := w.w.tr hb pn xe
  kind := w.kind
  stk := w.stk
  frm := w.frm
  po := fun _ => po
  exn := fun c h => ⟨(w.exn c h).ok⟩
  exm := w.exm
  ief := w.ief
/-- the exception that a suite holds -/
abbrev eaOf (G : Gx) (cv : Str → Value) (a : Addr) (cls : Value) : Ea := ⟨a, fun n => cls = cv n ∧ G.exs.contains n = true⟩
theorem Ws.suite (w : Ws X G T cv bk ea) (a : Addr) (oe : Obj) (cls : Value) (pn : List (Addr × Obj)) (hz : Zc cls none oe) (hf : ∃ vs, oe.data = .fields vs) :
    Ws (X.suite a ((a, oe) :: pn)) G T cv { bk with hot := true } (eaOf G cv a cls) where
  w := {
    hN := w.w.hN
    nd := w.w.nd
    sc := w.w.sc
    st := w.w.st
    calm := fun h => by cases h
    rm := ⟨w.w.rm.room⟩
    cns := w.w.cns
    fre := w.w.fre
    fns := fun h => by cases h
    isE := fun _ hi n c hn hc x p p2 p3 p4 i hg hm hN hv hd hg2 hd2 => by
      obtain ⟨rfl, hn⟩ := hn
      obtain ⟨D, C, e1, e2, e3, e4, e5⟩ := w.ief hi n c hn hc
      rw [e1] at hz
      have hcl := call_isE (X := X) (a := a) (pn := pn) e3 hz hf
      refine PEi (pe_callB hcl hg hm boot_isi (pa_cons (pe_var hN hv (nm_ok hd).1 (nm_ok hd).2.1) (pa_cons (pe_glob (v := .ref C) hg2 e5 rfl (nm_ok hd2).1) pa_nil))) fun σ H Q ⟨h1, h2⟩ => ?_
      exact ⟨_, h1, .ref C, .ref C, _, rfl, fun u hu => hu, e4, h2⟩ }
  kind := w.kind
  stk := fun h => by cases h
  frm := fun h => by cases h
  po := fun h => by cases h
  exn := fun c h => ⟨(w.exn c h).ok⟩
  exm := w.exm
  ief := w.ief
/-! ### refusals -/
theorem ps_rseD {c : Str} {m : Str} {j : Nat} {p p2 pos pos' : Pos} (w : Ws X G T cv bk ea) (tk : Takes X (wx cv W)) (hc : X.calm = true) (hg : Gl X c) (hd : okNm c = true) (hx : G.exs.contains c = true) :
    PS X (.Raise (some (.Call (.Name c p) [.Constant (.str m) j p2] [] pos)) none pos') (rdS X.K F0 H0 ea W fun env => .ex c env) := by
  obtain ⟨C, e1, e2, e3, e4, e5, e6⟩ := (w.exn c hx).ok
  refine PSi (ps_raise hc tk (pmk_own PySem.F.excBase_ValueError e3 e2 e4 (raises_own e5 e6) hg (nm_ok hd).1)) fun D σ H ⟨F, env, r, q⟩ => ?_
  exact ⟨c, e1.symm, rfl, q σ F H (Same.refl _) r⟩
/-- the wish of a try's body, by names -/
def wt (cv : Str → Value) (W : WX) : WD := fun c σ H => W (cv c) none σ H
theorem takes_wt {Y : Cx} {W : WX} (tk : Takes Y W) : Takes Y (wx cv (wt cv W)) := tk.imp fun c d σ H ⟨n, e1, e2, h⟩ => by
  subst e1 e2
  exact h
/-- the reading of a suite -/
def tsD (G : Gx) (cv : Str → Value) (K : PySem.W.Frag) (F0 H0 : Hp) (h : Fp.Env → Fl) : Addr → Value → Option Addr → TS := fun a cls d D σ H => d = none ∧ rdS K F0 H0 (eaOf G cv a cls) WF h D σ H
theorem ps_tryoD {c : Str} {body suite : List Stmt} {b0 : Stmt} {np pos pos' : Pos} {f h : Fp.Env → Fl} (w : Ws X G T cv bk ea) (tk : Takes X (wx cv W)) (hb : bk.hot = false) (hg : Gl X c) (hd : okNm c = true) (hx : G.exs.contains c = true)
    (hbd : ∀ (W : WD) (pn : List (Addr × Obj)) (xe : Value → Shared → Prop), Takes (X.tr pn xe) (wx cv W) → PassesOwn (model X.prog X.w) X.A X.env xe → PSs (X.tr pn xe) body (rdS X.K F0 H0 ea W f))
    (hsu : ∀ (a : Addr) (oe : Obj) (cls : Value) (pn : List (Addr × Obj)), Zc cls none oe → (∃ vs, oe.data = .fields vs) → PSs (X.suite a ((a, oe) :: pn)) (b0 :: suite) (rdS X.K F0 H0 (eaOf G cv a cls) WF h)) :
    PS X (.Try body [.ExceptHandler (some (.Name c np)) none (b0 :: suite) pos'] [] [] pos) (rdS X.K F0 H0 ea W fun env => match f env with
      | .ex d e => if G.exs.contains d = false then .no else if isSub d c = true then (match h (noExc e) with
        | .nx e => .nx (noExc e)
        | .rt d => .rt d
        | _ => .no) else .ex d e
      | r => r) := by
  obtain ⟨C, e1, e2, _⟩ := (w.exn c hx).ok
  have hn : Names X c (cv c) := ⟨hg, (nm_ok hd).1, .inl (by rw [e1]; exact e2)⟩
  refine PSi (ps_try_only (ts := tsD G cv X.K F0 H0 h) (tb := fun Wx => rdS X.K F0 H0 ea (wt cv Wx) f) (w.stk hb) (w.frm hb) hn tk (fun Wx pn xe tk' po => hbd (wt cv Wx) pn xe (takes_wt tk') po)
    (fun a oe cls d pn hz hf => ?_)) fun D σ H ⟨F, env, r, q⟩ => ⟨F, env, r, ?_⟩
  · refine ⟨fun pins s σ H D I ⟨hd, q⟩ => ?_⟩
    subst hd
    exact (hsu a oe cls pn hz hf).run pins s σ H D I q
  · revert q
    dsimp only
    cases f env with
    | nx e => exact fun q => q
    | rt d => exact fun q => q
    | no => exact fun q => q
    | ex d e =>
      dsimp only
      intro q σ' F' H' sf r'
      by_cases hk : G.exs.contains d = false
      · rw [if_pos hk] at q; exact q.elim
      · rw [if_neg hk] at q
        have hk : G.exs.contains d = true := by simpa using hk
        refine ⟨isSub d c, w.exm d c hk hx, fun hs a ha => ?_, fun hs => ?_⟩
        · rw [if_pos hs] at q
          refine ⟨rfl, F', noExc e, r'.noExc _, ?_⟩
          revert q
          cases h (noExc e) with
          | nx e2 => exact fun q σ3 F3 H3 s3 r3 => q σ3 F3 H3 (sf.trans s3) (r3.noExc ea)
          | rt d => exact fun q v F3 H3 s3 e3 rv => q v F3 H3 (sf.trans s3) e3 rv
          | ex _ _ => exact fun q => q.elim
          | no => exact fun q => q
        · rw [hs, if_neg Bool.false_ne_true] at q
          exact ⟨d, rfl, rfl, q σ' F' H' sf r'⟩
theorem ps_tryxD {c n : Str} {i : Nat} {body suite : List Stmt} {b0 : Stmt} {np pos pos' : Pos} {f h : Fp.Env → Fl} (w : Ws X G T cv bk ea) (tk : Takes X (wx cv W)) (hb : bk.hot = false) (hg : Gl X c) (hd : okNm c = true) (hx : G.exs.contains c = true)
    (hi : X.N[i]? = some n) (hln : X.env.scope.names.lookup n = some .local)
    (hbd : ∀ (W : WD) (pn : List (Addr × Obj)) (xe : Value → Shared → Prop), Takes (X.tr pn xe) (wx cv W) → PassesOwn (model X.prog X.w) X.A X.env xe → PSs (X.tr pn xe) body (rdS X.K F0 H0 ea W f))
    (hsu : ∀ (a : Addr) (oe : Obj) (cls : Value) (pn : List (Addr × Obj)), Zc cls none oe → (∃ vs, oe.data = .fields vs) → PSs (X.suite a ((a, oe) :: pn)) (b0 :: suite) (rdS X.K F0 H0 (eaOf G cv a cls) WF h)) :
    PS X (.Try body [.ExceptHandler (some (.Name c np)) (some n) (b0 :: suite) pos'] [] [] pos) (rdS X.K F0 H0 ea W fun env => match f env with
      | .ex d e => if G.exs.contains d = false then .no else if isSub d c = true then (match setS i (.exc d) (noExc e) with
        | .ok e => (match h e with
          | .nx e => ofE (setS i .un (noExc e))
          | .rt d => .rt d
          | _ => .no)
        | _ => .no) else .ex d e
      | r => r) := by
  obtain ⟨C, e1, e2, _⟩ := (w.exn c hx).ok
  have hn : Names X c (cv c) := ⟨hg, (nm_ok hd).1, .inl (by rw [e1]; exact e2)⟩
  refine PSi (ps_try_as (ts := tsD G cv X.K F0 H0 h) (tb := fun Wx => rdS X.K F0 H0 ea (wt cv Wx) f) (w.stk hb) (w.frm hb) w.w.nd hi hln hn tk (fun Wx pn xe tk' po => hbd (wt cv Wx) pn xe (takes_wt tk') po)
    (fun a oe cls d pn hz hf => ?_)) fun D σ H ⟨F, env, r, q⟩ => ⟨F, env, r, ?_⟩
  · refine ⟨fun pins s σ H D I ⟨hd, q⟩ => ?_⟩
    subst hd
    exact (hsu a oe cls pn hz hf).run pins s σ H D I q
  · revert q
    dsimp only
    cases f env with
    | nx e => exact fun q => q
    | rt d => exact fun q => q
    | no => exact fun q => q
    | ex d e =>
      dsimp only
      intro q σ' F' H' sf r'
      by_cases hk : G.exs.contains d = false
      · rw [if_pos hk] at q; exact q.elim
      · rw [if_neg hk] at q
        have hk : G.exs.contains d = true := by simpa using hk
        refine ⟨isSub d c, w.exm d c hk hx, fun hs a ha => ?_, fun hs => ?_⟩
        · rw [if_pos hs] at q
          unfold setS at q
          by_cases hl : i < (noExc e).length
          · rw [if_pos hl] at q
            dsimp only at q
            refine ⟨rfl, F', (noExc e).set i (.exc d), (r'.noExc (eaOf G cv a (cv d))).setN (s := .exc d) (x := some (.ref a)) ⟨rfl, rfl, hk⟩ (fun _ z => nomatch z), ?_⟩
            revert q
            cases h ((noExc e).set i (.exc d)) with
            | nx e2 =>
              intro q σ3 F3 H3 s3 r3
              dsimp only at q
              by_cases hl2 : i < (noExc e2).length
              · rw [if_pos hl2] at q
                exact q (σ3.set i none) F3 H3 (sf.trans s3) ((r3.noExc ea).setN (s := .un) (x := none) trivial fun _ z => nomatch z)
              · rw [if_neg hl2] at q
                exact q.elim
            | rt d => exact fun q v F3 H3 s3 e3 rv => q v F3 H3 (sf.trans s3) e3 rv
            | ex _ _ => exact fun q => q.elim
            | no => exact fun q => q
          · rw [if_neg hl] at q; exact q.elim
        · rw [hs, if_neg Bool.false_ne_true] at q
          exact ⟨d, rfl, rfl, q σ' F' H' sf r'⟩
end
end Fp

set_option Elab.async false
set_option linter.all false
set_option maxRecDepth 100000
set_option maxHeartbeats 4000000
/-! All statements. -/
namespace Fp
open PySem PySem.Spec PyProof.Rows L2
section
variable {G : Gx} {T : Nat → List D → R D} {cv : Str → Value} {F0 H0 : Hp}
theorem imp_ofG {X : Cx} {ea : Ea} {W : WD} {xa : Fp.Env → R D} : ∀ σ H Q, rdV X.K F0 H0 ea W false xa σ H Q → rdG X.K F0 H0 ea W xa σ H Q := fun σ H Q ⟨F, env, r, q⟩ => by
  refine ⟨F, env, r, ?_⟩
  revert q
  cases xa env with
  | no => exact fun q => q
  | ex c => exact fun q => q
  | ok d =>
    refine fun q F' H' e => ⟨fun v _ hv => q F' H' e v (Rb.of hv), fun ds p vs ed hp ho hf hr => ?_⟩
    subst ed
    exact q (upd F' p (.lst vs)) H' (e.freeze hp ho hf) (.ref p) (Rb.of (.lst (LsX.of upd_same) (hr.mono (Fp.Same.upd hf))))
theorem sets_lc {X : Cx} {bk : Bk} {ea : Ea} {W : WD} {y : Str} {p pos : Pos} {i : Nat} {x : Expr} (e : E) (w : Ws X G T cv bk ea) (tk : Takes X (wx cv W)) (ok : e.okT T) (h : chkE G bk false e x = true) (hi : X.N[i]? = some y) (hn : notLC x = false)
    (hl : isLocal bk.sc y = true) (ho : lcNoOwn y x = true) (hp : lcLine p x = true) : SetsA X y p x pos i (rdG X.K F0 H0 ea W (evE e)) := by
  have hyl : X.env.scope.names.lookup y = some .local := by rw [w.w.sc]; exact loc_ok hl
  cases x with
  | ListComp elt gs scope lp =>
    have ho' : (scope.names.any fun (n, k) => n == y && (k == .local || k == .cell)) = false := by simpa [lcNoOwn] using ho
    have hsw : swapsWith (.ListComp elt gs scope lp) (some (.Name y p)) pos.line X.env = pure true := sw_true w.kind hyl hp ho'
    cases e with
    | lc own tg it cs e =>
      match gs, h, hsw with
      | [], h, hsw => simp [chkE] at h
      | _ :: _ :: _ :: _, h, hsw => simp [chkE] at h
      | [_, _], h, hsw => simp [chkE] at h
      | [⟨t, i, ifs, as⟩], h, hsw =>
        by_cases ha : as = 0
        · subst ha
          simp only [chkE, Bool.and_eq_true, Bool.not_eq_true'] at h
          obtain ⟨⟨⟨⟨⟨⟨h1, h2⟩, h3⟩, h4⟩, h5⟩, h6⟩, h7⟩ := h
          have hsub : ∀ j ∈ tgv tg, j ∈ own := fun j hj => by
            have := List.all_eq_true.mp h3 j hj
            simpa using this
          refine set_lcD (own := own) (tg := tg) (xi := evIt it) (xt := evCs cs) (xe := evE e) hi hyl hsw (w.w.calm h1) w.w.nd (by rw [w.w.hN, w.w.sc]; exact h2) hsub (it_shp h4) (sIt it w.w tk ok.1 h4) (fun s H C cl fp => ?_) (fun s H C cl fp => ?_) (fun s H C cl fp => ?_)
          · have wb := w.w.blk h1 s H scope cl C fp
            exact tg_sound (wb.calm h1) wb.hN wb.nd wb.st tg t h5
          · exact sCs cs (w.w.blk h1 s H scope cl C fp) (takesF) ok.2.1 h6
          · exact (sE e (w.w.blk h1 s H scope cl C fp) (takesF) ok.2.2 h7).v
        · simp [chkE, ha] at h
    | lc2 own tg it cs tg2 it2 cs2 e =>
      match gs, h, hsw with
      | [], h, hsw => simp [chkE] at h
      | _ :: _ :: _ :: _, h, hsw => simp [chkE] at h
      | [_], h, hsw => simp [chkE] at h
      | [⟨t, i, ifs, as⟩, ⟨t2, i2, ifs2, as2⟩], h, hsw =>
        by_cases ha : as = 0
        · by_cases ha2 : as2 = 0
          · subst ha ha2
            simp only [chkE, Bool.and_eq_true, Bool.not_eq_true'] at h
            obtain ⟨⟨⟨⟨⟨⟨⟨⟨⟨⟨h1, h2⟩, h3⟩, h4⟩, h5⟩, h6⟩, h7⟩, h8⟩, h9⟩, h10⟩, h11⟩ := h
            have hsub : ∀ j ∈ tgv tg, j ∈ own := fun j hj => by
              have := List.all_eq_true.mp h3 j hj
              simpa using this
            have hsub2 : ∀ j ∈ tgv tg2, j ∈ own := fun j hj => by
              have := List.all_eq_true.mp h7 j hj
              simpa using this
            refine set_lc2D (own := own) (tg := tg) (xi := evIt it) (xt := evCs cs) (xe := evE e) (tg2 := tg2) (xi2 := evIt it2) (xt2 := evCs cs2) hi hyl hsw (w.w.calm h1) w.w.nd (by rw [w.w.hN, w.w.sc]; exact h2) hsub hsub2 (it_shp h4) (it_shp h8) (sIt it w.w tk ok.1 h4)
              (fun s H C cl fp => ?_) (fun s H C cl fp => ?_) (fun s H C cl fp => ?_) (fun s H C cl fp => ?_) (fun s H C cl fp => ?_) (fun s H C cl fp => ?_)
            · have wb := w.w.blk h1 s H scope cl C fp
              exact tg_sound (wb.calm h1) wb.hN wb.nd wb.st tg t h5
            · exact sCs cs (w.w.blk h1 s H scope cl C fp) (takesF) ok.2.1 h6
            · exact sIt it2 (w.w.blk h1 s H scope cl C fp) (takesF) ok.2.2.1 h8
            · have wb := w.w.blk h1 s H scope cl C fp
              exact tg_sound (wb.calm h1) wb.hN wb.nd wb.st tg2 t2 h9
            · exact sCs cs2 (w.w.blk h1 s H scope cl C fp) (takesF) ok.2.2.2.1 h10
            · exact (sE e (w.w.blk h1 s H scope cl C fp) (takesF) ok.2.2.2.2 h11).v
          · subst ha; simp [chkE, ha2] at h
        · simp [chkE, ha] at h
    | _ => simp [chkE] at h
  | _ => cases hn
theorem sw_cell {x : Expr} {y : Str} {p : Pos} {l : Nat} {env : PySem.Env} (h : env.scope.names.lookup y ≠ some .local) : swapsWith x (some (.Name y p)) l env = pure false := by
  have h' : (env.kindOf y == some .local) = false := by
    cases e : (env.kindOf y == some NameKind.local) with
    | false => rfl
    | true => exact absurd (eq_of_beq e) h
  cases x <;> first
    | rfl
    | (unfold swapsWith
       simp only [h', Bool.and_false, Bool.false_and]
       done)
    | (unfold swapsWith
       simp only [h', Bool.and_false, Bool.false_and]
       rfl)
theorem sets_all {X : Cx} {bk : Bk} {ea : Ea} {W : WD} {y : Str} {p pos : Pos} {i : Nat} {x : Expr} (e : E) (w : Ws X G T cv bk ea) (tk : Takes X (wx cv W)) (ok : e.okT T) (h : chkE G bk false e x = true) (hi : X.N[i]? = some y) (hst : bk.st y = true)
    (hs : okSet bk y p x = true) : SetsA X y p x pos i (rdV X.K F0 H0 ea W false (evE e)) ∧ (mk e = true → SetsA X y p x pos i (rdG X.K F0 H0 ea W (evE e))) := by
  obtain ⟨s1, s2⟩ := w.w.st y hst
  by_cases hn : notLC x = true
  · have g := sE (F0 := F0) (H0 := H0) e w.w tk ok h
    exact ⟨sets_plain w.w.nd hi s1 s2 g.v (sw_none (chk_shp h) hn), fun hm => sets_plain w.w.nd hi s1 s2 (g.g rfl hm) (sw_none (chk_shp h) hn)⟩
  · have hn : notLC x = false := by simpa using hn
    unfold okSet at hs
    rw [hn, Bool.false_or, Bool.or_eq_true] at hs
    rcases hs with hs | hs
    · have g := sE (F0 := F0) (H0 := H0) e w.w tk ok h
      have hsw : ∀ l, swapsWith x (some (.Name y p)) l X.env = pure false := fun l => sw_cell (fun z => by
        have : isLocal bk.sc y = true := by unfold isLocal; rw [← w.w.sc, z]
        rw [this] at hs; cases hs)
      exact ⟨sets_plain w.w.nd hi s1 s2 g.v (hsw _), fun hm => sets_plain w.w.nd hi s1 s2 (g.g rfl hm) (hsw _)⟩
    simp only [Bool.and_eq_true] at hs
    have g : SetsA X y p x pos i (rdG X.K F0 H0 ea W (evE e)) := sets_lc e w tk ok h hi hn hs.1.1 hs.1.2 hs.2
    exact ⟨⟨fun pins s σ H D I q => g.run pins s σ H D I (imp_ofG (X := X) σ H _ q)⟩, fun _ => g⟩
theorem q_of {X : Cx} {bk : Bk} {ea : Ea} {W : WD} {x : Expr} {o : Bool} (e : E) (w : Ws X G T cv bk ea) (tk : Takes X (wx cv W)) (ok : e.okT T) (h : chkE G bk false e x = true) (hm : (!o || mk e) = true) : PE X x (rdQ X.K F0 H0 ea W o (evE e)) := by
  have g := sE (F0 := F0) (H0 := H0) e w.w tk ok h
  cases o with
  | false => exact pe_qV g.v
  | true => exact pe_qG (g.g rfl (by simpa using hm))
theorem swapB_ok {vs : List Expr} (h : swapB vs = true) : vs.all (foldedForSure 8) = false ∧ vs.all (constantsAlone 8) = false := by
  unfold swapB at h
  simp only [Bool.and_eq_true, Bool.not_eq_true'] at h
  exact h
theorem sw_tup {ts : List Expr} {k : Nat} {tp : Pos} {x : Expr} {env : PySem.Env} (h : notTup x = true) (hs : shp x = true) : swappedStores [.Tuple ts k tp] x env = pure none := by
  cases x <;> first
    | rfl
    | (cases h; done)
    | (cases hs; done)
theorem ps_asgT {X : Cx} {ea : Ea} {W : WD} {tg : Tg} {ts : List Expr} {k : Nat} {tp pos : Pos} {x : Expr} {xa : Fp.Env → R D} (hn : notLC x = true) (ht : notTup x = true) (hs : shp x = true) (hx : PE X x (rdV X.K F0 H0 ea W false xa)) (hg : PG X (.Tuple ts k tp) (rdP X.K F0 H0 ea tg)) :
    PS X (.Assign [.Tuple ts k tp] x pos) (rdS X.K F0 H0 ea W fun env => ofR env (xa env) fun d => ofE (asg tg d env)) :=
  PSi (ps_asg hx hg (sole_none hs hn) (sw_tup ht hs)) fun D σ H ⟨F, env, r, q⟩ => ⟨F, env, r, AnsS.ofR (x := xa env) (D := D) r q fun d F' H' _ e k v hv => by
    have hv : Rp X.K F' v d := hv
    cases h : asg tg d env with
    | ok env' =>
      rw [h] at k
      exact ⟨F', env, d, env', r.grow e, hv, h, fun σ' r' _ _ => k σ' F' H' (Same.refl _) r'⟩
    | ex c => rw [h] at k; exact k.elim
    | no => rw [h] at k; exact k.elim⟩
theorem s_asn {X : Cx} {bk : Bk} {ea : Ea} {W : WD} {tg : Tg} {e : E} {t x : Expr} {pos : Pos} (w : Ws X G T cv bk ea) (tk : Takes X (wx cv W)) (ok : e.okT T) (h : chkAsn G bk tg e t x = true) :
    PS X (.Assign [t] x pos) (rdS X.K F0 H0 ea W fun env => ofR env (evE e env) fun d => ofE (asg tg d env)) := by
  unfold chkAsn at h
  split at h
  · split at h
    · rename_i i y p hn
      obtain rfl := gNm_ok hn
      simp only [Bool.and_eq_true, decide_eq_true_eq] at h
      obtain ⟨⟨⟨h1, h2⟩, h3⟩, h4⟩ := h
      exact ps_asnD (sets_all e w tk ok h3 (by rw [w.w.hN]; exact h1) h2 h4).1
    · cases h
  · split at h
    · rename_i ts k p hn
      obtain rfl := gTp_ok hn
      simp only [Bool.and_eq_true, Bool.not_eq_true'] at h
      obtain ⟨⟨⟨⟨h1, h2⟩, h3⟩, h4⟩, h5⟩ := h
      exact ps_asgT h4 h5 (chk_shp h3) (sE e w.w tk ok h3).v (tg_sound (w.w.calm h1) w.w.hN w.w.nd w.w.st _ _ h2)
    · cases h
theorem s_par2T {X : Cx} {bk : Bk} {ea : Ea} {W : WD} {i j : Nat} {o1 o2 : Bool} {e1 e2 : E} {ty tz a b : Expr} {k k2 : Nat} {p1 p2 pos : Pos} (w : Ws X G T cv bk ea) (tk : Takes X (wx cv W)) (ok : (Ps.cons i o1 e1 (.cons j o2 e2 .nil)).okT T) (h : chkPar2T G bk i o1 e1 j o2 e2 ty tz a b = true) :
    PS X (.Assign [.Tuple [ty, tz] k p1] (.Tuple [a, b] k2 p2) pos) (rdS X.K F0 H0 ea W fun env => match evPs (.cons i o1 e1 (.cons j o2 e2 .nil)) env with
      | .ok l => ofE (setAll l env)
      | .ex c => .ex c env
      | .no => .no) := by
  have he : (fun env => match evPs (.cons i o1 e1 (.cons j o2 e2 .nil)) env with
    | .ok l => ofE (setAll l env)
    | .ex c => .ex c env
    | .no => .no) = fun env => match ((evE e1 env).bind fun d => (slotOf o1 d).bind fun s => ((evE e2 env).bind fun d => (slotOf o2 d).bind fun t => R.ok [(j, t)]).bind fun l => R.ok ((i, s) :: l)) with
    | .ok l => ofE (setAll l env)
    | .ex c => .ex c env
    | .no => .no := rfl
  unfold chkPar2T at h
  split at h
  · rename_i y p z q h3 h4
    obtain rfl := gNm_ok h3
    obtain rfl := gNm_ok h4
    simp only [Bool.and_eq_true, decide_eq_true_eq, Bool.not_eq_true'] at h
    obtain ⟨⟨⟨⟨⟨⟨⟨⟨⟨⟨c1, c2⟩, c3⟩, c4⟩, c5⟩, c6⟩, c7⟩, c10⟩, c11⟩, c12⟩, c13⟩ := h
    obtain ⟨l1, l2⟩ := w.w.st _ c4
    obtain ⟨l3, l4⟩ := w.w.st _ c5
    have hne : X.env.scope.names.lookup y ≠ some .local ∨ X.env.scope.names.lookup z ≠ some .local := by
      rw [Bool.or_eq_true] at c7
      rcases c7 with c7 | c7
      · refine .inl fun z' => ?_
        have : isLocal bk.sc y = true := by unfold isLocal; rw [← w.w.sc, z']
        rw [this] at c7; cases c7
      · refine .inr fun z' => ?_
        have : isLocal bk.sc z = true := by unfold isLocal; rw [← w.w.sc, z']
        rw [this] at c7; cases c7
    have hp := ps_par2T (F0 := F0) (H0 := H0) (pos := pos) (px := p) (py := q) (pt := p1) (pt2 := p2) (kt := k) (k2 := k2) (w.w.calm c1) w.w.nd (by rw [w.w.hN]; exact c2) (by rw [w.w.hN]; exact c3) c6 l1 l3 l2 l4 (swapN2 hne (chk_shp c12) (chk_shp c13)) (chk_shp c12) (chk_shp c13)
      (q_of e1 w tk ok.1 c12 c10) (q_of e2 w tk ok.2.1 c13 c11)
    refine PSi hp fun D σ H q => ?_
    rw [he] at q
    exact q
  · cases h
theorem s_par {X : Cx} {bk : Bk} {ea : Ea} {W : WD} {l : Ps} {ts xs : List Expr} {k k2 : Nat} {p1 p2 pos : Pos} (w : Ws X G T cv bk ea) (tk : Takes X (wx cv W)) (ok : l.okT T) (h : chkPs G bk l ts xs = true) :
    PS X (.Assign [.Tuple ts k p1] (.Tuple xs k2 p2) pos) (rdS X.K F0 H0 ea W fun env => match evPs l env with
      | .ok l => ofE (setAll l env)
      | .ex c => .ex c env
      | .no => .no) := by
  unfold chkPs at h
  split at h
  · rename_i i o1 e1 j o2 e2
    split at h
    · rename_i ty tz a b h1 h2
      obtain rfl := g2_ok h1
      obtain rfl := g2_ok h2
      have hor := (Bool.or_eq_true _ _).mp h
      clear h
      refine hor.elim (fun h => ?_) fun h => s_par2T w tk ok h
      clear hor
      unfold chkPar2 at h
      split at h
      · rename_i y p z q h3 h4
        obtain rfl := gNm_ok h3
        obtain rfl := gNm_ok h4
        simp only [Bool.and_eq_true, decide_eq_true_eq, Bool.not_eq_true'] at h
        obtain ⟨⟨⟨⟨⟨⟨⟨⟨⟨⟨⟨⟨c1, c2⟩, c3⟩, c4⟩, c5⟩, c6⟩, c7⟩, c8⟩, c9⟩, c10⟩, c11⟩, c12⟩, c13⟩ := h
        have ly : X.env.scope.names.lookup y = some .local := by rw [w.w.sc]; exact loc_ok c4
        have lz : X.env.scope.names.lookup z = some .local := by rw [w.w.sc]; exact loc_ok c5
        obtain ⟨f1, f2⟩ := swapB_ok c9
        have hp := ps_par2D (F0 := F0) (H0 := H0) (pos := pos) (pt := p1) (pt2 := p2) (kt := k) (k2 := k2) (w.w.calm c1) w.w.nd (by rw [w.w.hN]; exact c2) (by rw [w.w.hN]; exact c3) c6 ly lz (swap2 w.kind ly lz c7 c8 (chk_shp c12) (chk_shp c13) f1 f2) (chk_shp c12) (chk_shp c13)
          (q_of e1 w tk ok.1 c12 c10) (q_of e2 w tk ok.2.1 c13 c11)
        refine PSi hp fun D σ H q => ?_
        have : (fun env => match evPs (.cons i o1 e1 (.cons j o2 e2 .nil)) env with
          | .ok l => ofE (setAll l env)
          | .ex c => .ex c env
          | .no => .no) = fun env => match ((evE e1 env).bind fun d => (slotOf o1 d).bind fun s => ((evE e2 env).bind fun d => (slotOf o2 d).bind fun t => R.ok [(j, t)]).bind fun l => R.ok ((i, s) :: l)) with
          | .ok l => ofE (setAll l env)
          | .ex c => .ex c env
          | .no => .no := rfl
        rw [this] at q
        exact q
      · cases h
    · cases h
  · rename_i i o1 e1 j o2 e2 l o3 e3
    split at h
    · rename_i ty tz tu a b c h1 h2
      obtain rfl := g3_ok h1
      obtain rfl := g3_ok h2
      unfold chkPar3 at h
      split at h
      · rename_i y p z q u r h3 h4 h5
        obtain rfl := gNm_ok h3
        obtain rfl := gNm_ok h4
        obtain rfl := gNm_ok h5
        simp only [Bool.and_eq_true, decide_eq_true_eq, Bool.not_eq_true'] at h
        obtain ⟨⟨⟨⟨⟨⟨⟨⟨⟨⟨⟨⟨⟨⟨⟨⟨⟨⟨⟨⟨⟨c1, c2⟩, c3⟩, c4⟩, c5⟩, c6⟩, c7⟩, d1⟩, d2⟩, d3⟩, d4⟩, d5⟩, d6⟩, d7⟩, d8⟩, d9⟩, m1⟩, m2⟩, m3⟩, k1⟩, k2'⟩, k3⟩ := h
        have ly : X.env.scope.names.lookup y = some .local := by rw [w.w.sc]; exact loc_ok c5
        have lz : X.env.scope.names.lookup z = some .local := by rw [w.w.sc]; exact loc_ok c6
        have lu : X.env.scope.names.lookup u = some .local := by rw [w.w.sc]; exact loc_ok c7
        obtain ⟨f1, f2⟩ := swapB_ok d9
        have hp := ps_par3D (F0 := F0) (H0 := H0) (pos := pos) (pt := p1) (pt2 := p2) (kt := k) (k2 := k2) (w.w.calm c1) w.w.nd (by rw [w.w.hN]; exact c2) (by rw [w.w.hN]; exact c3) (by rw [w.w.hN]; exact c4) d1 d2 d3 ly lz lu
          (swap3 w.kind ly lz lu d4 d5 d6 d7 d8 (chk_shp k1) (chk_shp k2') (chk_shp k3) f1 f2) (chk_shp k1) (chk_shp k2') (chk_shp k3)
          (q_of e1 w tk ok.1 k1 m1) (q_of e2 w tk ok.2.1 k2' m2) (q_of e3 w tk ok.2.2.1 k3 m3)
        refine PSi hp fun D σ H q => ?_
        have : (fun env => match evPs (.cons i o1 e1 (.cons j o2 e2 (.cons l o3 e3 .nil))) env with
          | .ok l => ofE (setAll l env)
          | .ex c => .ex c env
          | .no => .no) = fun env => match ((evE e1 env).bind fun d => (slotOf o1 d).bind fun s => ((evE e2 env).bind fun d => (slotOf o2 d).bind fun t => ((evE e3 env).bind fun d => (slotOf o3 d).bind fun v => R.ok [(l, v)]).bind fun l => R.ok ((j, t) :: l)).bind fun l => R.ok ((i, s) :: l)) with
          | .ok l => ofE (setAll l env)
          | .ex c => .ex c env
          | .no => .no := rfl
        rw [this] at q
        exact q
      · cases h
    · cases h
  · cases h
mutual
theorem sS : ∀ (st : S) {X : Cx} {bk : Bk} {ea : Ea} {W : WD} {x : Stmt}, Ws X G T cv bk ea → Takes X (wx cv W) → st.okT T → chkS G bk st x = true → PS X x (rdS X.K F0 H0 ea W (exS st))
  | .asn tg e, X, bk, ea, W, x, w, tk, ok, h => by
    rw [chkS] at h
    split at h
    · rename_i t v p hg
      obtain rfl := gAsg_ok hg
      exact s_asn w tk ok h
    · cases h
  | .own i e, X, bk, ea, W, x, w, tk, ok, h => by
    rw [chkS] at h
    split at h
    · rename_i t v p hg
      obtain rfl := gAsg_ok hg
      split at h
      · rename_i y q hn
        obtain rfl := gNm_ok hn
        simp only [Bool.and_eq_true, decide_eq_true_eq] at h
        obtain ⟨⟨⟨⟨h1, h2⟩, h3⟩, h4⟩, h5⟩ := h
        exact ps_ownD ((sets_all e w tk ok h4 (by rw [w.w.hN]; exact h1) h2 h5).2 h3)
      · cases h
    · cases h
  | .par l, X, bk, ea, W, x, w, tk, ok, h => by
    rw [chkS] at h
    split at h
    · rename_i t v p hg
      obtain rfl := gAsg_ok hg
      split at h
      · rename_i ts k p1 xs k2 p2 h1 h2
        obtain rfl := gTp_ok h1
        obtain rfl := gTp_ok h2
        exact s_par w tk ok h
      · cases h
    · cases h
  | .sti i ix e, X, bk, ea, W, x, w, tk, ok, h => by
    rw [chkS] at h
    split at h
    · rename_i t v p hg
      obtain rfl := gAsg_ok hg
      split at h
      · rename_i y pn b p2 h1
        obtain rfl := gSb_ok h1
        simp only [Bool.and_eq_true] at h
        obtain ⟨⟨⟨h1, h2⟩, h3⟩, h4⟩ := h
        obtain ⟨n1, n2, n3⟩ := name_ok w.w h1
        exact ps_stiD (chk_shp h2) n1 n2 n3 (chk_shp h3) h4 (sE e w.w tk ok.2 h3).v (sE ix w.w tk ok.1 h2).v
      · cases h
    · cases h
  | .app i e, X, bk, ea, W, x, w, tk, ok, h => by
    rw [chkS] at h
    split at h
    · rename_i v p hg
      obtain rfl := gEx_ok hg
      split at h
      · rename_i c hc
        obtain rfl := gMc_ok hc
        simp only [Bool.and_eq_true, decide_eq_true_eq] at h
        obtain ⟨⟨⟨h1, h2⟩, h3⟩, h4⟩ := h
        obtain ⟨n1, n2, n3⟩ := name_ok w.w h1
        rw [h2]
        exact ps_appD n1 n2 n3 h3 (chk_shp h4) (sE e w.w tk ok h4).v
      · cases h
    · cases h
  | .appop i j e, X, bk, ea, W, x, w, tk, ok, h => by
    rw [chkS] at h
    split at h
    · rename_i v p hg
      obtain rfl := gEx_ok hg
      split at h
      · rename_i c hc
        obtain rfl := gMc_ok hc
        split at h
        · rename_i d hd
          rw [gMc_ok hd]
          simp only [Bool.and_eq_true, decide_eq_true_eq] at h
          obtain ⟨⟨⟨⟨⟨⟨⟨h1, h2⟩, h3⟩, h4⟩, h5⟩, h6⟩, h7⟩, h8⟩ := h
          obtain ⟨n1, n2, n3⟩ := name_ok w.w h1
          obtain ⟨m1, m2, m3⟩ := name_ok w.w h2
          rw [h4, h5]
          exact ps_popD h3 n1 n2 n3 m1 m2 m3 h6 h7 (chk_shp h8) (sE e w.w tk ok h8).v
        · cases h
      · cases h
    · cases h
  | .ife c a b, X, bk, ea, W, x, w, tk, ok, h => by
    rw [chkS] at h
    split at h
    · rename_i v p q pos hg
      obtain rfl := gIf_ok hg
      simp only [Bool.and_eq_true] at h
      exact ps_ifeD ((sE c w.w tk ok.1 h.1.1).t rfl) (sSs a w tk ok.2.1 h.1.2) (sSs b w tk ok.2.2 h.2)
    · cases h
  | .for tg it b, X, bk, ea, W, x, w, tk, ok, h => by
    rw [chkS] at h
    split at h
    · rename_i t v p pos hg
      obtain rfl := gFr_ok hg
      simp only [Bool.and_eq_true, Bool.not_eq_true'] at h
      obtain ⟨⟨⟨h1, h2⟩, h3⟩, h4⟩ := h
      exact ps_forD (w.po h1) (w.w.calm h1) (it_shp h2) (sIt it w.w tk ok.1 h2) (tg_sound (w.w.calm h1) w.w.hN w.w.nd w.w.st _ _ h3) (sSs b w tk ok.2 h4)
    · cases h
  | .whl c b, X, bk, ea, W, x, w, tk, ok, h => by
    rw [chkS] at h
    split at h
    · rename_i v p pos hg
      obtain rfl := gWh_ok hg
      simp only [Bool.and_eq_true, Bool.not_eq_true'] at h
      obtain ⟨⟨h1, h2⟩, h3⟩ := h
      have hp := ps_whlD (pos := pos) (w.po h1) ((sE (F0 := F0) (H0 := H0) c w.w tk ok.1 h2).t rfl) (sSs b w tk ok.2 h3) turns
      have e : exS (.whl c b) = whlGo (evE c) (exSs b) turns := by funext env; rw [exS]
      rw [e]
      exact hp
    · cases h
  | .ret e, X, bk, ea, W, x, w, tk, ok, h => by
    rw [chkS] at h
    split at h
    · rename_i v p hg
      obtain rfl := gRt_ok hg
      exact ps_retD (sE (bor := false) e w.w tk ok h).v
    · cases h
  | .rse c, X, bk, ea, W, x, w, tk, ok, h => by
    rw [chkS] at h
    split at h
    · rename_i r hg
      obtain rfl := gRs_ok hg
      simp only [Bool.and_eq_true, decide_eq_true_eq, Bool.not_eq_true'] at h
      obtain ⟨⟨⟨⟨h1, h2⟩, h3⟩, h4⟩, h5⟩ := h
      rw [h2]
      exact ps_rseD w tk (w.w.calm h1) (gl_ok w.w h3) h4 h5
    · cases h
  | .exp e, X, bk, ea, W, x, w, tk, ok, h => by
    rw [chkS] at h
    split at h
    · rename_i v p hg
      obtain rfl := gEx_ok hg
      simp only [Bool.and_eq_true] at h
      exact ps_expD (chk_shp h.2) h.1 (sE (bor := false) e w.w tk ok h.2).v
    · cases h
  | .pas, X, bk, ea, W, x, w, tk, ok, h => by
    cases x <;> first
      | (simp [chkS, isPass] at h; done)
      | exact ps_passD
  | .tryx b i c ks hh, X, bk, ea, W, x, w, tk, ok, h => by
    rw [chkS] at h
    split at h
    · rename_i t hg
      obtain rfl := gTr_ok hg
      split at h
      · rename_i n hn
        simp only [Bool.and_eq_true, decide_eq_true_eq, Bool.not_eq_true'] at h
        obtain ⟨⟨⟨⟨⟨⟨⟨⟨⟨h1, h2⟩, h3⟩, h4⟩, h5⟩, h6⟩, h7⟩, h8⟩, h9⟩, h10⟩ := h
        subst h2
        rw [h3, hn]
        have hp := ps_tryxD (F0 := F0) (H0 := H0) (pos := t.pos) (pos' := t.pos') (np := t.np) w tk h1 (gl_ok w.w h4) h5 h6 (by rw [w.w.hN]; exact h7) (by rw [w.w.sc]; exact loc_ok h8)
          (fun W pn xe tk' po => sSs b (w.tr h1 pn xe po) tk' ok.1 h9) (fun a oe cls pn hz hf => sSs hh (w.suite a oe cls pn hz hf) takesF ok.2 h10)
        exact hp
      · cases h
    · cases h
  | .tryo b c ks hh, X, bk, ea, W, x, w, tk, ok, h => by
    rw [chkS] at h
    split at h
    · rename_i t hg
      obtain rfl := gTr_ok hg
      split at h
      · rename_i hn
        simp only [Bool.and_eq_true, decide_eq_true_eq, Bool.not_eq_true'] at h
        obtain ⟨⟨⟨⟨⟨⟨⟨h1, h2⟩, h3⟩, h4⟩, h5⟩, h6⟩, h9⟩, h10⟩ := h
        subst h2
        rw [h3, hn]
        have hp := ps_tryoD (F0 := F0) (H0 := H0) (pos := t.pos) (pos' := t.pos') (np := t.np) w tk h1 (gl_ok w.w h4) h5 h6
          (fun W pn xe tk' po => sSs b (w.tr h1 pn xe po) tk' ok.1 h9) (fun a oe cls pn hz hf => sSs hh (w.suite a oe cls pn hz hf) takesF ok.2 h10)
        exact hp
      · cases h
    · cases h
  | .frz i, X, bk, ea, W, x, w, tk, ok, h => by rw [chkS] at h; cases h
  | .extd i e, X, bk, ea, W, x, w, tk, ok, h => by rw [chkS] at h; cases h
theorem sSs : ∀ (ss : Ss) {X : Cx} {bk : Bk} {ea : Ea} {W : WD} {xs : List Stmt}, Ws X G T cv bk ea → Takes X (wx cv W) → ss.okT T → chkSs G bk ss xs = true → PSs X xs (rdS X.K F0 H0 ea W (exSs ss))
  | .nil, X, bk, ea, W, xs, w, tk, ok, h => by
    cases xs with
    | nil => exact pss_nilD
    | cons _ _ => rw [chkSs] at h; cases h
  | .cons s r, X, bk, ea, W, xs, w, tk, ok, h => by
    unfold chkSs at h
    split at h
    · rename_i i
      have k := sSs r w tk ok.2 h
      refine PSsi k fun D σ H ⟨F, env, rl, q⟩ => ?_
      rw [exSs, exS] at q
      split at q
      · rename_i d e
        obtain ⟨F', sf, r'⟩ := rl.freeze e
        exact ⟨F', _, r', AnsS.grow q sf⟩
      · exact ⟨F, env, rl, q⟩
    · split at h
      · simp only [Bool.and_eq_true] at h
        exact pss_consD (sS s w tk ok.1 h.1) (sSs r w tk ok.2 h.2)
      · cases h
end
end
end Fp

set_option Elab.async false
set_option linter.all false
set_option maxRecDepth 100000
set_option maxHeartbeats 4000000
/-! A def keeps the promise of its terms. -/
namespace Fp
open PySem PySem.Spec PyProof.Rows L2
section
variable {P : Program} {w : World} {K : PySem.W.Frag} {mg : Str → Option Value} {base : Heap} {cv : Str → Value}
/-- what is known of the module, for all defs -/
structure Md (K : PySem.W.Frag) (mg : Str → Option Value) (cv : Str → Value) (G : Gx) : Prop where
  cns : ∀ p ∈ G.cns, ∃ u, mg p.1 = some u ∧ cnsV p.2 u
  fre : ∀ x, G.fre.contains x = true → mg x = none
  exn : ∀ c, G.exs.contains c = true → ∃ C, cv c = .ref C ∧ mg c = some (.ref C) ∧ PySem.W.excIn K C He.veBase "ValueError.__new__" = true ∧ PySem.W.keepIn K (.ref C) = true ∧ PySem.W.subIn K (.ref C) (.type "BaseException") = some true ∧ PySem.W.typeIn K (.ref C) = some (.type "type")
  exm : ∀ d c, G.exs.contains d = true → G.exs.contains c = true → PySem.W.exmOne K (cv d) (cv c) = some (isSub d c)
  ief : G.ise = true → ∀ n c, G.exs.contains n = true → G.exs.contains c = true → ∃ D C, cv n = .ref D ∧ cv c = .ref C ∧ ExcC K D ∧ PySem.W.kitOne K (.ref D) (.ref C) = some (isSub n c) ∧ mg c = some (.ref C)
/-- a def that may be called -/
structure Cal (P : Program) (w : World) (K : PySem.W.Frag) (mg : Str → Option Value) (base : Heap) (cv : Str → Value) (k : Nat) (x : Str) (n : Nat) (g : List D → R D) : Prop where
  ok : ∃ f fd ps, FnOk P w K mg base (L2.CX P w) k f fd ps (spF K cv n g) ∧ mg x = some (.ref f) ∧ PySem.W.keepIn K (.ref f) = true ∧ Binds K fd ps []
theorem Cal.mono {j k : Nat} {x : Str} {n : Nat} {g : List D → R D} (h : j ≤ k) (c : Cal P w K mg base cv j x n g) : Cal P w K mg base cv k x n g := by
  obtain ⟨f, fd, ps, F, h1, h2, h3⟩ := c.ok
  exact ⟨f, fd, ps, F.mono h, h1, h2, h3⟩
theorem start_rel {F H : Hp} {ea : Ea} {N : List Str} {vs : List V} {ds : List D} (s : Same F H) (r : RpAll K F vs ds) (hl : vs.length ≤ N.length) :
    Rel K F H ea (ds.map Slot.val ++ List.replicate (N.length - ds.length) .un) (start N vs) F H := by
  have hlen := r.length
  refine ⟨.refl s, ?_, fun i sl x h1 h2 => ?_, fun i j s t x y a hij h1 h2 h3 h4 o1 o2 => ?_⟩
  · unfold L2.start
    rw [List.length_append, List.length_append, List.length_map, List.length_map, List.length_replicate, List.length_replicate, hlen]
  · by_cases hi : i < ds.length
    · rw [List.getElem?_append_left (by rw [List.length_map]; exact hi), List.getElem?_map, List.getElem?_eq_getElem hi] at h1
      cases h1
      obtain ⟨v, hv, rv⟩ := r.get (List.getElem?_eq_getElem hi)
      unfold L2.start at h2
      rw [List.getElem?_append_left (by rw [List.length_map, hlen]; exact hi), List.getElem?_map, hv] at h2
      cases h2
      exact ⟨v, rfl, rv⟩
    · rw [List.getElem?_append_right (by rw [List.length_map]; omega)] at h1
      have := List.mem_of_getElem? h1
      obtain ⟨_, rfl⟩ := List.mem_replicate.mp this
      trivial
  · obtain ⟨⟨d, hd⟩, _⟩ := o1
    subst hd
    by_cases hi : i < ds.length
    · rw [List.getElem?_append_left (by rw [List.length_map]; exact hi), List.getElem?_map, List.getElem?_eq_getElem hi] at h1
      cases h1
    · rw [List.getElem?_append_right (by rw [List.length_map]; omega)] at h1
      have := List.mem_of_getElem? h1
      obtain ⟨_, h⟩ := List.mem_replicate.mp this
      cases h
theorem own_loc {sc : Scope} {x : Str} (h : isOwn sc x = true) : Loc sc x := by
  unfold isOwn at h
  split at h
  · rename_i e; exact .inl e
  · rename_i e; exact .inr e
  · cases h
theorem fn_ok {name qual : Str} {params : Arguments} {body : List Stmt} {scope : Scope} {f : Addr} {fd : FuncData} {ps : List Str} {k : Nat} {G : Gx} {T : Nat → List D → R D} {b : Ss}
    (F : FunD K name qual params body scope [] [] f fd) (S : FnScope G.N ps scope) (hl : ps.length ≤ G.N.length) (hb : chkSs G ⟨scope, isOwn scope, false⟩ b body = true) (ok : b.okT T) (M : Md K mg cv G)
    (fns : ∀ j, j < G.lim → ∀ x n, G.fns[j]? = some x → G.ars[j]? = some n → Cal P w K mg base cv k x n (T j)) :
    FnOk P w K mg base (L2.CX P w) (k + 1) f fd ps (spF K cv ps.length (runF ps.length G.N.length b)) := by
  refine F.ok (CX := L2.CX P w) S (fun vs H Q E h => h.1) fun cdv A outer s H vs Q E hr h => ?_
  obtain ⟨hv, F1, ds, sf, ra, q⟩ := h
  let ea : Ea := ⟨0, fun _ => False⟩
  let W : WD := fun c _ H => E (cv c) none H
  have tk : Takes (cxOf (L2.CX P w) P w K mg base G.N qual scope f cdv A outer s H E) (wx cv W) := (takes_of (E := E) rfl rfl rfl rfl).imp fun c d σ H ⟨n, e1, e2, z⟩ => by
    subst e1 e2
    exact z
  have ws : Ws (cxOf (L2.CX P w) P w K mg base G.N qual scope f cdv A outer s H E) G T cv ⟨scope, isOwn scope, false⟩ ea := {
    w := {
      hN := rfl
      nd := S.nd
      sc := rfl
      st := fun x h => ⟨own_loc h, .inl rfl⟩
      calm := fun _ => rfl
      rm := ⟨by have := hr.un; show (A.deeper _).units + 70 < cLine; omega⟩
      cns := M.cns
      fre := M.fre
      fns := fun _ j hj x n hx hn => by
        obtain ⟨f', fd', ps', F', h1, h2, h3⟩ := (fns j hj x n hx hn).ok
        exact ⟨k, f', fd', ps', F', hr, h1, h2, h3⟩
      isE := fun h => by cases h }
    kind := S.kind
    stk := fun _ => rfl
    frm := fun _ => rfl
    po := fun _ => passes_of rfl
    exn := fun c h => ⟨M.exn c h⟩
    exm := M.exm
    ief := M.ief }
  refine ⟨_, sSs (F0 := F1) (H0 := H) b ws tk ok hb, F1, _, start_rel sf ra (by omega), ?_⟩
  have hd : ds.length = ps.length := by rw [← ra.length]; exact hv
  unfold runF at q
  rw [if_pos hd, ← hd] at q
  revert q
  cases exSs b (ds.map Slot.val ++ List.replicate (G.N.length - ds.length) .un) with
  | rt d => exact fun q v F' H' s e rv => q F' H' e v rv
  | nx e => exact fun q σ' F' H' s r => q F' H' r.ext .non .non
  | ex c e => exact fun q σ' F' H' s r => q F' H' r.ext
  | no => exact fun q => q
end
end Fp

set_option Elab.async false
set_option linter.all false
set_option maxRecDepth 100000
set_option maxHeartbeats 4000000
/-! A module's defs, the law's end. -/
namespace Fp
open PySem PySem.Spec PyProof.Rows L2
/-! ### the head's facts: the module's, and what isinstance asks of own exception classes -/
def excB (K : PySem.W.Frag) (D : Addr) : Bool :=
  decide (PySem.W.findIn K (.ref D) "__getattribute__" = some (some (.builtin "BaseException.__getattribute__"))) && decide (PySem.W.findIn K (.ref D) "__getattr__" = some none) &&
  decide (PySem.W.subIn K (.ref D) (.type "BaseException") = some true) && PySem.W.hasDictIn K D && decide (PySem.W.findIn K (.ref D) "__class__" = some (some (.builtin "object.__class__"))) &&
  decide (PySem.W.specialIn K (.builtin "object.__class__") "__get__" = some (some (.builtin "getset_descriptor.__get__"))) && decide (PySem.W.takesIn K (.builtin "object.__class__") = some true) && decide (PySem.W.mroIn K D (.type "object") = some true)
theorem excB_ok {K : PySem.W.Frag} {D : Addr} (h : excB K D = true) : ExcC K D := by
  unfold excB at h
  simp only [Bool.and_eq_true, decide_eq_true_eq] at h
  obtain ⟨⟨⟨⟨⟨⟨⟨h1, h2⟩, h3⟩, h4⟩, h5⟩, h6⟩, h7⟩, h8⟩ := h
  exact ⟨h1, h2, h3, h4, h5, h6, h7, h8⟩
def isB (K : PySem.W.Frag) (ex : List Str) : Bool := ex.all fun n => excB K (He.ga K n) && ex.all fun c => decide (PySem.W.kitOne K (.ref (He.ga K n)) (.ref (He.ga K c)) = some (isSub n c))
def obsX (fa : List He.Fa) (fn : List He.DefD) (ex : List Str) (K : PySem.W.Frag) : He.AlD := ((He.obsD fa fn K).1 && isB K ex, (He.obsD fa fn K).2)
def SaysX (fa : List He.Fa) (fn : List He.DefD) (ex : List Str) (K : PySem.W.Frag) : Prop := obsX fa fn ex K = He.valD fn
theorem SaysX.d {fa : List He.Fa} {fn : List He.DefD} {ex : List Str} {K : PySem.W.Frag} (c : SaysX fa fn ex K) : He.SaysD fa fn K ∧ isB K ex = true := by
  have h1 : ((He.obsD fa fn K).1 && isB K ex) = true := congrArg (fun z : He.AlD => z.1) c
  have h2 : (obsX fa fn ex K).2 = (He.valD fn).2 := congrArg (fun z : He.AlD => z.2) (show obsX fa fn ex K = He.valD fn from c)
  rw [Bool.and_eq_true] at h1
  exact ⟨Prod.ext h1.1 h2, h1.2⟩
def obsXG (n : Nat) (fa : List He.Fa) (fn : List He.DefD) (ex : List Str) (g : Addr → Option Obj) : He.AlD := obsX fa fn ex (He.frG g (He.asD g n))
def hookX (n : Nat) (fa : List He.Fa) (fn : List He.DefD) (ex : List Str) : PySem.W.Hook where
  α := He.AlD
  obs := fun s => obsXG n fa fn ex s.heap.get?
  val := fun _ => He.valD fn
  says := fun _ h => ∃ K : PySem.W.Frag, K.In h ∧ SaysX fa fn ex K
  of := fun _ _ e => ⟨_, He.frG_in, e⟩
  keeps := fun _ _ _ ⟨K, hK, c⟩ k => ⟨K, PySem.W.Frag.In.keeps hK k, c⟩
theorem obsXG_eq {n : Nat} {fa : List He.Fa} {fn : List He.DefD} {ex : List Str} {g : Addr → Option Obj} {s : Shared} (h : ∀ a, g a = s.heap.get? a) : obsXG n fa fn ex g = (hookX n fa fn ex).obs s := by
  have e : g = s.heap.get? := funext h
  rw [e] <;> rfl
structure Dt where
  name : Str
  st : Stmt
  ps : List Str
  N : List Str
  b : Ss
def Dt.d (t : Dt) : He.DefD := ⟨(t.name, none), t.name, t.name, defArgs t.st, defBody t.st, defScope t.st, [], []⟩
def Dt.g (t : Dt) : List D → R D := runF t.ps.length t.N.length t.b
structure Lw where
  dts : List Dt
  fre : List Str
  ci : List (Str × Int)
  cstrs : List (Str × Str)
  exs : List Str
def Lw.gx (L : Lw) : Gx where
  N := []
  fns := L.dts.map Dt.name
  lim := 0
  cns := (L.ci.map fun p => (p.1, .int p.2)) ++ L.cstrs.map fun p => (p.1, .str p.2)
  fre := L.fre
  exs := L.exs
  ars := L.dts.map fun t => t.ps.length
  ise := true
def Lw.fa (L : Lw) : List He.Fa := (L.dts.map fun t => He.Fa.glo t.name) ++ (L.exs.map He.Fa.glo ++ (L.fre.map He.Fa.free ++ (L.ci.map (fun p => He.Fa.int p.1 p.2) ++ (L.cstrs.map (fun p => He.Fa.str p.1 p.2) ++ (L.exs.map He.Fa.exc ++ L.exs.flatMap fun x => L.exs.map fun y => He.Fa.exm x y (isSub x y))))))
def Lw.fn (L : Lw) : List He.DefD := L.dts.map Dt.d
def Lw.T (L : Lw) (j : Nat) : List D → R D := match L.dts[j]? with
  | some t => t.g
  | none => fun _ => .no
def fscB (N ps : List Str) (sc : Scope) : Bool := (match sc.kind with
  | .function => true
  | _ => false) && !sc.isCoroutine && !sc.isGenerator && decide N.Nodup && decide (N.take ps.length = ps) && decide (ps.length ≤ N.length) && (ps.all fun x => isOwn sc x) && sc.names.all fun y => match y.2 with
  | .free => false
  | _ => true
theorem fsc_ok {N ps : List Str} {sc : Scope} (h : fscB N ps sc = true) : FnScope N ps sc ∧ ps.length ≤ N.length := by
  unfold fscB at h
  simp only [Bool.and_eq_true, Bool.not_eq_true', decide_eq_true_eq] at h
  obtain ⟨⟨⟨⟨⟨⟨⟨h1, h2⟩, h3⟩, h4⟩, h5⟩, h6⟩, h7⟩, h8⟩ := h
  refine ⟨⟨?_, h2, h3, h4, h5, fun x hx => own_loc (List.all_eq_true.mp h7 x hx), fun y hy e => ?_⟩, h6⟩
  · split at h1
    · assumption
    · cases h1
  · have := List.all_eq_true.mp h8 y hy
    rw [e] at this
    cases this
def Dt.ok (G : Gx) (j : Nat) (t : Dt) : Bool := fscB t.N t.ps (defScope t.st) && chkSs { G with N := t.N, lim := j } ⟨defScope t.st, isOwn (defScope t.st), false⟩ t.b (defBody t.st)
def okAll (G : Gx) : Nat → List Dt → Bool
  | _, [] => true
  | j, t :: r => t.ok G j && okAll G (j + 1) r
theorem okAll_at {G : Gx} : ∀ {n : Nat} {l : List Dt} {j : Nat} {t : Dt}, okAll G n l = true → l[j]? = some t → t.ok G (n + j) = true
  | _, [], _, _, _, e => by simp at e
  | n, u :: r, 0, t, h, e => by
    simp only [okAll, Bool.and_eq_true] at h
    simp at e
    subst e
    exact h.1
  | n, u :: r, j + 1, t, h, e => by
    simp only [okAll, Bool.and_eq_true] at h
    have := okAll_at (j := j) (t := t) h.2 (by simpa using e)
    rw [Nat.add_assoc, Nat.add_comm 1 j] at this
    exact this
/-- of each def -/
def AllD (Pr : Dt → Prop) : List Dt → Prop
  | [] => True
  | t :: r => Pr t ∧ AllD Pr r
theorem AllD.at_ {Pr : Dt → Prop} : ∀ {l : List Dt} {j : Nat} {t : Dt}, AllD Pr l → l[j]? = some t → Pr t
  | [], _, _, _, e => by simp at e
  | u :: r, 0, t, h, e => by
    simp at e
    subst e
    exact h.1
  | u :: r, j + 1, t, h, e => AllD.at_ (j := j) h.2 (by simpa using e)
def Dt.binds (t : Dt) : Prop := ∀ (kV doc pm : Value) (an : Option Addr) (cdv ct : Value) (us : List Value), us.length = t.ps.length → bindArgs (PySem.W.fnOf t.name t.name (defArgs t.st) (defBody t.st) (defScope t.st) .none kV doc pm an cdv ct) ⟨us, []⟩ = pure (t.ps.zip us)
/-- the law's text, held against its terms -/
structure Lw.Ok (L : Lw) : Prop where
  chk : okAll L.gx 0 L.dts = true
  bnd : AllD Dt.binds L.dts
  okT : AllD (fun t => t.b.okT L.T) L.dts
section
variable {L : Lw} {K : PySem.W.Frag} {h : Heap} {mg : Str → Option Value}
theorem SaysD.mem {fa : List He.Fa} {fn : List He.DefD} (c : He.SaysD fa fn K) {f : He.Fa} (hf : f ∈ fa) : f.ok K = true := by
  obtain ⟨i, hi⟩ := List.getElem?_of_mem hf
  exact c.fact i hi
abbrev cvOf (K : PySem.W.Frag) (c : Str) : Value := .ref (He.ga K c)
theorem Lw.md (X : K.In h) (G : h.Ns mainGlobals mg) (c : He.SaysD L.fa L.fn K) (ci : isB K L.exs = true) (N : List Str) (j : Nat) : Md K mg (cvOf K) { L.gx with N := N, lim := j } where
  cns := fun p hp => by
    have hp : p ∈ (L.ci.map fun p => (p.1, PyData.int p.2)) ++ L.cstrs.map fun p => (p.1, PyData.str p.2) := hp
    rcases List.mem_append.mp hp with hp | hp
    · obtain ⟨q, hq, rfl⟩ := List.mem_map.mp hp
      obtain ⟨t, ht⟩ := He.int_ok (i := q.2) X G (SaysD.mem c (by
        unfold Lw.fa
        exact List.mem_append_right _ (List.mem_append_right _ (List.mem_append_right _ (List.mem_append_left _ (List.mem_map.mpr ⟨q, hq, rfl⟩))))))
      exact ⟨_, ht, ⟨t, rfl⟩⟩
    · obtain ⟨q, hq, rfl⟩ := List.mem_map.mp hp
      obtain ⟨t, ht⟩ := He.str_ok (z := q.2) X G (SaysD.mem c (by
        unfold Lw.fa
        exact List.mem_append_right _ (List.mem_append_right _ (List.mem_append_right _ (List.mem_append_right _ (List.mem_append_left _ (List.mem_map.mpr ⟨q, hq, rfl⟩)))))))
      exact ⟨_, ht, ⟨t, rfl⟩⟩
  fre := fun x hx => by
    have hx : x ∈ L.fre := by simpa [Lw.gx] using hx
    exact He.free_ok X G (SaysD.mem c (by
      unfold Lw.fa
      exact List.mem_append_right _ (List.mem_append_right _ (List.mem_append_left _ (List.mem_map.mpr ⟨x, hx, rfl⟩)))))
  exn := fun x hx => by
    have hx : x ∈ L.exs := by simpa [Lw.gx] using hx
    have h1 := He.glo_ok X G (SaysD.mem c (f := .glo x) (by
      unfold Lw.fa
      exact List.mem_append_right _ (List.mem_append_left _ (List.mem_map.mpr ⟨x, hx, rfl⟩))))
    obtain ⟨e1, e2, e3, e4⟩ := He.exc_ok (SaysD.mem c (f := .exc x) (by
      unfold Lw.fa
      exact List.mem_append_right _ (List.mem_append_right _ (List.mem_append_right _ (List.mem_append_right _ (List.mem_append_right _ (List.mem_append_left _ (List.mem_map.mpr ⟨x, hx, rfl⟩))))))))
    exact ⟨_, rfl, h1, e1, e2, e3, e4⟩
  exm := fun d x hd hx => by
    have hd : d ∈ L.exs := by simpa [Lw.gx] using hd
    have hx : x ∈ L.exs := by simpa [Lw.gx] using hx
    exact He.exm_ok (SaysD.mem c (f := .exm d x (isSub d x)) (by
      unfold Lw.fa
      exact List.mem_append_right _ (List.mem_append_right _ (List.mem_append_right _ (List.mem_append_right _ (List.mem_append_right _ (List.mem_append_right _ (List.mem_flatMap.mpr ⟨d, hd, List.mem_map.mpr ⟨x, hx, rfl⟩⟩))))))))
  ief := fun _ n x hn hx => by
    have hn : n ∈ L.exs := by simpa [Lw.gx] using hn
    have hx : x ∈ L.exs := by simpa [Lw.gx] using hx
    have q := List.all_eq_true.mp ci n hn
    rw [Bool.and_eq_true] at q
    have q2 := List.all_eq_true.mp q.2 x hx
    exact ⟨_, _, rfl, rfl, excB_ok q.1, of_decide_eq_true q2, He.glo_ok X G (SaysD.mem c (f := .glo x) (by
      unfold Lw.fa
      exact List.mem_append_right _ (List.mem_append_left _ (List.mem_map.mpr ⟨x, hx, rfl⟩))))⟩
theorem Lw.cal {P : Program} {w : World} (O : L.Ok) (X : K.In h) (G : h.Ns mainGlobals mg) (c : He.SaysD L.fa L.fn K) (ci : isB K L.exs = true) : ∀ (j : Nat) (t : Dt), L.dts[j]? = some t → ∃ fd, (∀ base : Heap, FnOk P w K mg base (L2.CX P w) (j + 1) (He.ga K t.name) fd t.ps (spF K (cvOf K) t.ps.length (L.T j))) ∧
    mg t.name = some (.ref (He.ga K t.name)) ∧ PySem.W.keepIn K (.ref (He.ga K t.name)) = true ∧ Binds K fd t.ps [] ∧ ∀ (s : Shared) (us : List Value), us.length = t.ps.length → BindsTo s fd ⟨us, []⟩ (t.ps.zip us) := by
  intro j
  induction j using Nat.strongRecOn with
  | ind j ih =>
    intro t ht
    obtain ⟨fd, F⟩ := c.def_ j (d := t.d) (by unfold Lw.fn; rw [List.getElem?_map, ht]; rfl)
    have F : FunD K t.name t.name (defArgs t.st) (defBody t.st) (defScope t.st) [] [] (He.ga K t.name) fd := F
    have hg := He.glo_ok X G (SaysD.mem c (f := .glo t.name) (by
      unfold Lw.fa
      exact List.mem_append_left _ (List.mem_map.mpr ⟨t, List.mem_of_getElem? ht, rfl⟩)))
    have hk := okAll_at O.chk ht
    rw [Nat.zero_add] at hk
    unfold Dt.ok at hk
    rw [Bool.and_eq_true] at hk
    obtain ⟨S, hl⟩ := fsc_ok hk.1
    have hT : L.T j = t.g := by unfold Lw.T; rw [ht]
    have hb := O.bnd.at_ ht
    refine ⟨fd, fun base => ?_, hg, F.kp, F.bindsN hb, F.bindsA hb⟩
    rw [hT]
    refine fn_ok (G := { L.gx with N := t.N, lim := j }) (T := L.T) F S hl hk.2 (O.okT.at_ ht) (L.md X G c ci t.N j) fun i hi x n hx hn => ?_
    have hx : (L.dts.map Dt.name)[i]? = some x := hx
    have hn : (L.dts.map fun t => t.ps.length)[i]? = some n := hn
    rw [List.getElem?_map] at hx hn
    cases hu : L.dts[i]? with
    | none => rw [hu] at hx; cases hx
    | some u =>
      rw [hu] at hx hn
      cases hx
      cases hn
      obtain ⟨fd', F', g', k', b', _⟩ := ih i hi u hu
      exact ⟨_, fd', u.ps, (F' base).mono (by have hi : i < j := hi; omega), g', k', b'⟩
theorem ints_rp {K : PySem.W.Frag} {F : Hp} : ∀ ns : List Int, RpAll K F (ns.map V.int) (ns.map PyData.int)
  | [] => .nil
  | n :: ns => .cons (.int n) (ints_rp ns)
end
/-- THE END: the law answers True at every script -/
theorem walk_law {l : PySem.W.OpenLaw} {n m : Nat} {q : Program} {loose : List Str} {XP : (Str → Option Value) → Heap → Prop} {d : DefRec} {L : Lw} (hn : l.most = some n) (hn2 : n ≤ sizeLine) (hdf : d.params.defaults = []) (hd : d.name = ("law" : Str)) (O : L.Ok)
    (j : Nat) (t : Dt) (x : Str) (ht : L.dts[j]? = some t) (hnm : t.name = ("law" : Str)) (hx : t.ps = [x]) (hr : Room (j + 1) callerA) (law : ∀ ns : List Int, ns.length ≤ n → t.g [.list (ns.map PyData.int)] = .ok (.bool true)) :
    PySem.W.WalkO q loose XP (hookX m L.fa L.fn L.exs).says l.row.toRowW d [] (fun f vs => PySem.call f vs) := by
  refine Att.attach_call hn hdf fun w s₀ s₁ mg mb fa o pm cd doc a vs ns G Y ho hdd hcd hmg hobj hints hlen hg => ?_
  obtain ⟨K, KX, c⟩ := Y
  obtain ⟨c, ci⟩ := c.d
  obtain ⟨fd, F, g, kp, b, bA⟩ := Lw.cal (P := l.prog) (w := w) O KX G.T.g c ci j t ht
  rw [hd, ← hnm, g] at hmg
  cases hmg
  refine law_call (fd := fd) (x := x) (k := j + 1) KX G.T.g G.T.b G.T.builtins G.T.nolimit hg hobj hints (Nat.le_trans hlen hn2) hr
    (sp := spF K (cvOf K) t.ps.length (L.T j)) (CX := L2.CX l.prog w) (fun base hb hns => ?_) (fun s u => ?_) (fun H hO hS => ?_) fun H e s' z => ?_
  · have := F base
    rw [hx] at this ⊢
    exact this
  · have := bA s [u] (by rw [hx]; rfl)
    rw [hx] at this
    exact this
  · have hT : L.T j = t.g := by unfold Lw.T; rw [ht]
    have hL : LsX K H a (ns.map V.int) := by
      rcases hS with hS | ⟨o', its, n', hk, hc, hdn, hdt, hz, rv⟩
      · exact .inl hS
      · have e := KX _ _ hk
        rw [hobj] at e
        cases e
        cases hdt
        refine .inr ⟨vs, _, hk, rv, ?_⟩
        rw [List.length_map]
        exact Nat.le_trans hlen hn2
    refine ⟨by rw [hx]; rfl, H, [.list (ns.map PyData.int)], Same.refl H, .cons (.lst hL (ints_rp ns)) .nil, ?_⟩
    rw [hT, law ns hlen]
    intro F' H' e v rv
    cases rv
    rfl
  · obtain ⟨_, _, _, _, _, _, _, _, _, _, _, _, z⟩ := z
    exact z
end Fp

set_option Elab.async false
set_option linter.all false
set_option maxRecDepth 100000
set_option maxHeartbeats 1000000
/-! Plain laws of the small language's meaning. -/
namespace Fp
open PySem
theorem lcGo_map {F : D → R (Option D)} {g : D → Option D} : ∀ {xs : List D}, (∀ x ∈ xs, F x = .ok (g x)) → lcGo F xs = .ok (xs.filterMap g)
  | [], _ => rfl
  | x :: xs, h => by
    have ih := lcGo_map (F := F) (g := g) (xs := xs) fun y hy => h y (List.mem_cons_of_mem _ hy)
    rw [lcGo, h x List.mem_cons_self, List.filterMap_cons]
    cases g x with
    | none => exact ih
    | some y => dsimp only; rw [ih]
theorem filterMap_some {α β : Type} (g : α → β) : ∀ xs : List α, xs.filterMap (fun x => some (g x)) = xs.map g
  | [] => rfl
  | x :: xs => by rw [List.filterMap_cons, filterMap_some g xs]; rfl
theorem boolsD_map {α : Type} (p : α → Bool) : ∀ xs : List α, boolsD (xs.map fun x => .bool (p x)) = .ok (xs.map p)
  | [] => rfl
  | x :: xs => by rw [List.map_cons, boolsD, boolsD_map p xs]; rfl
/-- [e for tg in it] -/
theorem ev_lc {own : List Nat} {tg : Tg} {it : It} {e : E} {env : Env} {xs : List D} {g : D → D} (hi : evIt it env = .ok xs) (hl : xs.length ≤ 16777216) (h : ∀ x ∈ xs, ∃ env', asg tg x (wipeE env own) = .ok env' ∧ evE e env' = .ok (g x)) :
    evE (.lc own tg it .nil e) env = .ok (.list (xs.map g)) := by
  rw [evE, hi, R.bind_ok]
  have hm := lcGo_map (xs := xs) (F := fun x => (asg tg x (wipeE env own)).bind fun env' => (evCs .nil env').bind fun k => if k = true then (evE e env').bind fun y => .ok (some y) else .ok none) (g := fun x => some (g x)) fun x hx => by
    obtain ⟨env', h1, h2⟩ := h x hx
    rw [h1, R.bind_ok, evCs, R.bind_ok, if_pos rfl, h2, R.bind_ok]
  rw [hm, R.bind_ok, filterMap_some, List.length_map, if_pos hl]
/-- all([e for tg in it]) -/
theorem ev_all {own : List Nat} {tg : Tg} {it : It} {e : E} {env : Env} {xs : List D} {p : D → Bool} (hi : evIt it env = .ok xs) (hl : xs.length ≤ 16777216) (h : ∀ x ∈ xs, ∃ env', asg tg x (wipeE env own) = .ok env' ∧ evE e env' = .ok (.bool (p x))) :
    evE (.blt .all (.cons (.lc own tg it .nil e) .nil)) env = .ok (.bool (xs.all p)) := by
  rw [evE, evEs, ev_lc (g := fun x => .bool (p x)) hi hl h, R.bind_ok, evEs, R.bind_ok, R.bind_ok, dBlt, boolsD_map, R.bind_ok, List.all_map]
  rfl
end Fp

set_option Elab.async false
set_option linter.all false
set_option maxRecDepth 100000
set_option maxHeartbeats 1000000
/-! Plain laws: how the terms are reckoned, step by step. -/
namespace Fp
open PySem L2
theorem run1 {np n : Nat} {b : Ss} {ds : List D} (h : ds.length = np) : runF np n b ds = (exSs b (ds.map .val ++ List.replicate (n - np) .un)).out := by rw [runF, if_pos h]
section
variable {env : Env} {a b c e : E} {x y z : D} {p q : Bool} {i j k : Int} {es : Es} {ds : List D} {r : Ss} {R1 : Fp.R D}
/-! ### data -/
theorem dEq_ok (hx : fine x = true) (hy : fine y = true) : dEq x y = .ok (PyData.eqv x y) := by unfold dEq; rw [hx, hy]; rfl
theorem dEq_int : dEq (.int i) (.int j) = .ok (decide (i = j)) := rfl
theorem dLt_int' : PySem.W.dataLt (.int i) (.int j) = decide (i < j) := by
  show PyProof.Rows.lexLt PyProof.Rows.itemOrd [.inl i] [.inl j] = _
  unfold PyProof.Rows.lexLt
  by_cases h : i < j
  · simp [PyProof.Rows.itemOrd, PyProof.Rows.itemLt, h]
  · by_cases h2 : i = j
    · subst h2; simp [PyProof.Rows.itemOrd, PyProof.Rows.itemLt, PyProof.Rows.lexLt]
    · simp [PyProof.Rows.itemOrd, PyProof.Rows.itemLt, h, h2, PyProof.Rows.lexLt]
theorem dLt_int : dLt (.int i) (.int j) = .ok (decide (i < j)) := by
  show R.ok (PySem.W.dataLt (.int i) (.int j)) = _
  rw [dLt_int']
theorem dLe_int : dLe (.int i) (.int j) = .ok (decide (i ≤ j)) := by
  show R.ok (!PySem.W.dataLt (.int j) (.int i)) = _
  rw [dLt_int']
  by_cases h : j < i
  · rw [decide_eq_true h, decide_eq_false (by omega)]; rfl
  · rw [decide_eq_false h, decide_eq_true (by omega)]; rfl
/-! ### terms -/
theorem ev_isi (h : evE a env = .ok x) (t : Ty) : evE (.isi a t) env = .ok (.bool (isTy t x)) := by rw [evE, h]; rfl
theorem ev_and (h : evE a env = .ok (.bool p)) (k : p = true → evE b env = .ok (.bool q)) : evE (.and a b) env = .ok (.bool (p && q)) := by
  rw [evE, h, R.bind_ok, asB, R.bind_ok]
  cases p with
  | true => rw [if_pos rfl, k rfl]; rfl
  | false => rfl
theorem ev_or (h : evE a env = .ok (.bool p)) (k : p = false → evE b env = .ok (.bool q)) : evE (.or a b) env = .ok (.bool (p || q)) := by
  rw [evE, h, R.bind_ok, asB, R.bind_ok]
  cases p with
  | true => rfl
  | false => rw [if_neg Bool.false_ne_true, k rfl]; rfl
theorem ev_not (h : evE a env = .ok (.bool p)) : evE (.not a) env = .ok (.bool (!p)) := by rw [evE, h]; rfl
theorem ev_chn (h1 : evE a env = .ok (.int i)) (h2 : evE b env = .ok (.int j)) (h3 : evE c env = .ok (.int k)) : evE (.chn a b c) env = .ok (.bool (decide (i ≤ j) && decide (j ≤ k))) := by
  rw [evE, h1, R.bind_ok, h2, R.bind_ok, dLe_int, R.bind_ok]
  by_cases h : i ≤ j
  · rw [decide_eq_true h, if_pos rfl, h3, R.bind_ok, dLe_int]; rfl
  · rw [decide_eq_false h]; rfl
theorem ev_cmp {o : Cop} (h1 : evE a env = .ok x) (h2 : evE b env = .ok y) (h3 : dCmp o x y = .ok p) : evE (.cmp o a b) env = .ok (.bool p) := by
  rw [evE, h1, R.bind_ok, h2, R.bind_ok, h3]; rfl
theorem ev_idx (h1 : evE a env = .ok x) (h2 : evE b env = .ok y) : evE (.idx a b) env = dIdx x y := by rw [evE, h1, R.bind_ok, h2]; rfl
theorem ev_bin {o : Bop} (h1 : evE a env = .ok x) (h2 : evE b env = .ok y) : evE (.bin o a b) env = dBin o x y := by rw [evE, h1, R.bind_ok, h2]; rfl
theorem ev_call {j : Nat} {g : List D → Fp.R D} (h : evEs es env = .ok ds) : evE (.call j g es) env = g ds := by rw [evE, h]; rfl
theorem ev_blt {bl : Blt} (h : evEs es env = .ok ds) : evE (.blt bl es) env = dBlt bl ds := by rw [evE, h]; rfl
theorem evs_nil : evEs .nil env = .ok [] := by rw [evEs]
theorem evs_cons (h : evE e env = .ok x) (k : evEs es env = .ok ds) : evEs (.cons e es) env = .ok (x :: ds) := by rw [evEs, h, R.bind_ok, k]; rfl
theorem evs1 (h : evE e env = .ok x) : evEs (.cons e .nil) env = .ok [x] := evs_cons h evs_nil
theorem ev_tup (h : evEs es env = .ok ds) (hl : ds.length ≤ 16777216) : evE (.tup es) env = .ok (.tuple ds) := by rw [evE, h, R.bind_ok, if_pos hl]
theorem ev_lst (h : evEs es env = .ok ds) (hl : ds.length ≤ 16777216) : evE (.lst es) env = .ok (.list ds) := by rw [evE, h, R.bind_ok, if_pos hl]
theorem ev_ite (h : evE c env = .ok (.bool p)) : evE (.ite c a b) env = if p = true then evE a env else evE b env := by rw [evE, h]; rfl
theorem ev_lenT {xs : List D} (h : evE a env = .ok (.tuple xs)) : evE (.blt .len (.cons a .nil)) env = .ok (.int xs.length) := by rw [ev_blt (evs1 h)]; rfl
theorem ev_lenL {xs : List D} (h : evE a env = .ok (.list xs)) : evE (.blt .len (.cons a .nil)) env = .ok (.int xs.length) := by rw [ev_blt (evs1 h)]; rfl
theorem ev_lenS {z : Str} (h : evE a env = .ok (.str z)) (hz : z.length ≤ 16777216) : evE (.blt .len (.cons a .nil)) env = .ok (.int z.length) := by
  rw [ev_blt (evs1 h)]; simp [dBlt, hz]
/-! ### statements -/
theorem ret1 : (exSs (.cons (.ret e) r) env).out = evE e env := by
  rw [exSs, exS]
  cases evE e env <;> rfl
theorem ex_ret (h : evE e env = .ok x) : exSs (.cons (.ret e) r) env = .rt x := by rw [exSs, exS, h]; rfl
theorem ex_ife {s t : Ss} (h : evE c env = .ok (.bool p)) : exSs (.cons (.ife c s t) r) env = (if p = true then exSs s env else exSs t env).andThen (exSs r) := by
  rw [exSs, exS, h]
  cases p <;> rfl
theorem ex_nil : exSs .nil env = .nx env := by rw [exSs]
/-- if c: return a -/
theorem ex_ifret (h : evE c env = .ok (.bool p)) (ha : p = true → evE a env = .ok x) : exSs (.cons (.ife c (.cons (.ret a) .nil) .nil) r) env = if p = true then .rt x else exSs r env := by
  rw [ex_ife h]
  cases p with
  | true => rw [if_pos rfl, if_pos rfl, ex_ret (ha rfl)]; rfl
  | false => rw [if_neg Bool.false_ne_true, if_neg Bool.false_ne_true, ex_nil]; rfl
theorem ex_asn {i : Nat} (h : evE e env = .ok x) (hi : i < env.length) : exSs (.cons (.asn (.nm i) e) r) env = exSs r (env.set i (.val x)) := by
  rw [exSs, exS, h, ofR, asg, if_pos hi]; rfl
theorem ex_asnT {tg : Tg} {env' : Env} (h : evE e env = .ok x) (ha : asg tg x env = .ok env') : exSs (.cons (.asn tg e) r) env = exSs r env' := by
  rw [exSs, exS, h, ofR, ha]; rfl
end
/-! ### sane data -/
mutual
def sz : D → Bool
  | .str z => decide (z.length ≤ 1000000)
  | .list xs => decide (xs.length ≤ 1000000) && szAll xs
  | .tuple xs => decide (xs.length ≤ 1000000) && szAll xs
  | .dict _ => false
  | _ => true
def szAll : List D → Bool
  | [] => true
  | x :: xs => sz x && szAll xs
end
theorem szAll_mem : ∀ {xs : List D} {x : D}, szAll xs = true → x ∈ xs → sz x = true
  | y :: xs, x, h, hx => by
    simp only [szAll, Bool.and_eq_true] at h
    rcases List.mem_cons.mp hx with rfl | hx
    · exact h.1
    · exact szAll_mem h.2 hx
  | [], _, _, hx => by cases hx
theorem sz_tuple {xs : List D} (h : sz (.tuple xs) = true) : xs.length ≤ 1000000 ∧ szAll xs = true := by simpa [sz] using h
theorem ok_of {α : Type} {x : Fp.R α} {v w : α} (h : x = .ok v) (e : v = w) : x = .ok w := by rw [h, e]
theorem ev_slot {env : Env} {i : Nat} {d : D} (h : env[i]? = some (.val d)) : evE (.slot i) env = .ok d := by rw [evE, h]
theorem ev_borv {env : Env} {i : Nat} {d : D} (h : env[i]? = some (.val d)) : evE (.bor i) env = .ok d := by rw [evE, h]
theorem ev_boro {env : Env} {i : Nat} {d : D} (h : env[i]? = some (.own d)) : evE (.bor i) env = .ok d := by rw [evE, h]
theorem ev_cst {env : Env} {d : D} : evE (.cst d) env = .ok d := by rw [evE]
theorem ev_glo {env : Env} {x : Str} {d : D} : evE (.glo x d) env = .ok d := by rw [evE]
theorem ev_isk {env : Env} {a : E} {x : D} {n b : Bool} {k : Kc} (h : evE a env = .ok x) (h2 : isK k x = .ok b) : evE (.isk n a k) env = .ok (.bool (n != b)) := by rw [evE, h, R.bind_ok, h2]; rfl
theorem ev_neg {env : Env} {a : E} {i : Int} (h : evE a env = .ok (.int i)) : evE (.neg a) env = .ok (.int (-i)) := by rw [evE, h]; rfl
theorem ev_sli {env : Env} {a : E} {x : D} {lo hi : Eo} {l h : Option Int} (h1 : evE a env = .ok x) (h2 : evEo lo env = .ok l) (h3 : evEo hi env = .ok h) : evE (.sli a lo hi) env = dSli x l h := by rw [evE, h1, R.bind_ok, h2, R.bind_ok, h3]; rfl
theorem evo_non {env : Env} : evEo .non env = .ok none := by rw [evEo]
theorem evo_som {env : Env} {e : E} {i : Int} (h : evE e env = .ok (.int i)) : evEo (.som e) env = .ok (some i) := by rw [evEo, h]; rfl
theorem ev_rev {env : Env} {a : E} {x : D} (h : evE a env = .ok x) : evE (.rev a) env = dRev x := by rw [evE, h]; rfl
theorem dne_ok {x y : D} {k : Bool} (h : dCmp .eq x y = .ok k) : dCmp .ne x y = .ok (!k) := by
  have h : dEq x y = .ok k := h
  rw [dCmp, h]; rfl
theorem dnotin_ok {x y : D} {k : Bool} (h : dCmp .isin x y = .ok k) : dCmp .notin x y = .ok (!k) := by
  have h : dIn x y = .ok k := h
  rw [dCmp, h]; rfl
theorem it_dat {env : Env} {e : E} {x : D} {xs : List D} (h : evE e env = .ok x) (k : itemsD x = .ok xs) : evIt (.dat e) env = .ok xs := by rw [evIt, h]; exact k
theorem it_zip {env : Env} {a b : E} {x y : D} {xs : List D} (h : evE a env = .ok x) (h2 : evE b env = .ok y) (k : zipR x y = .ok xs) : evIt (.zip a b) env = .ok xs := by rw [evIt, h, R.bind_ok, h2]; exact k
theorem it_enu {env : Env} {a : E} {x : D} {xs : List D} (h : evE a env = .ok x) (k : sq x = .ok xs) : evIt (.enu a) env = .ok (enumD 0 xs) := by rw [evIt, h, R.bind_ok, k]; rfl
theorem it_rg1 {env : Env} {a : E} {j : Int} (h : evE a env = .ok (.int j)) (h0 : 0 ≤ j) (h1 : j < 2 ^ 62) : evIt (.rg1 a) env = .ok (rangeD 0 j.toNat) := by
  rw [evIt, h, R.bind_ok, rng, if_pos (by simp; omega), Int.sub_zero]
theorem it_rg2 {env : Env} {a b : E} {i j : Int} (h : evE a env = .ok (.int i)) (h2 : evE b env = .ok (.int j)) (h0 : -(2 ^ 62) ≤ i) (h1 : i < 2 ^ 62) (h3 : -(2 ^ 62) ≤ j) (h4 : j < 2 ^ 62) : evIt (.rg2 a b) env = .ok (rangeD i (j - i).toNat) := by
  rw [evIt, h, R.bind_ok, h2, R.bind_ok, rng, if_pos (by simp; omega)]
/-- [e for tg in it if c] -/
theorem ev_lcf {own : List Nat} {tg : Tg} {it : It} {c e : E} {env : Env} {xs : List D} {p : D → Bool} {g : D → D} (hi : evIt it env = .ok xs) (hl : xs.length ≤ 16777216)
    (h : ∀ x ∈ xs, ∃ env', asg tg x (wipeE env own) = .ok env' ∧ evE c env' = .ok (.bool (p x)) ∧ (p x = true → evE e env' = .ok (g x))) : evE (.lc own tg it (.one c) e) env = .ok (.list ((xs.filter p).map g)) := by
  rw [evE, hi, R.bind_ok]
  have hm := lcGo_map (xs := xs) (F := fun x => (asg tg x (wipeE env own)).bind fun env' => (evCs (.one c) env').bind fun k => if k = true then (evE e env').bind fun y => .ok (some y) else .ok none) (g := fun x => if p x = true then some (g x) else none) fun x hx => by
    obtain ⟨env', h1, h2, h3⟩ := h x hx
    rw [h1, R.bind_ok, evCs, h2, R.bind_ok, asB, R.bind_ok]
    by_cases hp : p x = true
    · rw [if_pos hp, if_pos hp, h3 hp]; rfl
    · rw [if_neg hp, if_neg hp]
  have e2 : xs.filterMap (fun x => if p x = true then some (g x) else none) = (xs.filter p).map g := by
    clear hm h hl hi
    induction xs with
    | nil => rfl
    | cons x xs ih =>
      rw [List.filterMap_cons, List.filter_cons]
      by_cases hp : p x = true
      · rw [if_pos hp, if_pos hp, List.map_cons, ih]
      · rw [if_neg hp, if_neg hp, ih]
  rw [hm, R.bind_ok, e2, if_pos (by rw [List.length_map]; exact Nat.le_trans (List.length_filter_le _ _) hl)]
theorem ev_idx' {env : Env} {a b : E} {x y v : D} (h1 : evE a env = .ok x) (h2 : evE b env = .ok y) (h3 : dIdx x y = .ok v) : evE (.idx a b) env = .ok v := (ev_idx h1 h2).trans h3
theorem ev_bin' {env : Env} {a b : E} {x y v : D} {o : Bop} (h1 : evE a env = .ok x) (h2 : evE b env = .ok y) (h3 : dBin o x y = .ok v) : evE (.bin o a b) env = .ok v := (ev_bin h1 h2).trans h3
theorem ev_sli' {env : Env} {a : E} {x v : D} {lo hi : Eo} {l h : Option Int} (h1 : evE a env = .ok x) (h2 : evEo lo env = .ok l) (h3 : evEo hi env = .ok h) (h4 : dSli x l h = .ok v) : evE (.sli a lo hi) env = .ok v := (ev_sli h1 h2 h3).trans h4
theorem ev_rev' {env : Env} {a : E} {x v : D} (h : evE a env = .ok x) (h2 : dRev x = .ok v) : evE (.rev a) env = .ok v := (ev_rev h).trans h2
theorem ev_call' {env : Env} {es : Es} {ds : List D} {v : D} {j : Nat} {g : List D → Fp.R D} (h : evEs es env = .ok ds) (h2 : g ds = .ok v) : evE (.call j g es) env = .ok v := (ev_call h).trans h2
theorem ev_blt' {env : Env} {es : Es} {ds : List D} {v : D} {bl : Blt} (h : evEs es env = .ok ds) (h2 : dBlt bl ds = .ok v) : evE (.blt bl es) env = .ok v := (ev_blt h).trans h2
theorem atI_zero {α : Type} (x : α) (r : List α) : atI (x :: r) 0 = some x := by
  unfold atI ixN
  rw [if_pos (by omega), if_pos (by simp)]
  rfl
theorem atI_one {α : Type} (x y : α) (r : List α) : atI (x :: y :: r) 1 = some y := by
  unfold atI ixN
  rw [if_pos (by omega), if_pos (by simp; omega)]
  rfl
theorem atI_nat {α : Type} {xs : List α} {n : Nat} {x : α} (h : xs[n]? = some x) : atI xs (n : Int) = some x := by
  have hl := (List.getElem?_eq_some_iff.mp h).1
  unfold atI ixN
  rw [if_pos (by omega), if_pos (by omega)]
  simpa using h
theorem dIdxT0 {x : D} {r : List D} : dIdx (.tuple (x :: r)) (.int 0) = .ok x := by rw [dIdx, atI_zero]; rfl
theorem dIdxL0 {x : D} {r : List D} : dIdx (.list (x :: r)) (.int 0) = .ok x := by rw [dIdx, atI_zero]; rfl
theorem dIdxT1 {x y : D} {r : List D} : dIdx (.tuple (x :: y :: r)) (.int 1) = .ok y := by rw [dIdx, atI_one]; rfl
theorem dIdxL1 {x y : D} {r : List D} : dIdx (.list (x :: y :: r)) (.int 1) = .ok y := by rw [dIdx, atI_one]; rfl
/-! ### what the program's looks say -/
def SMALL : Str := "abcdefghijklmnopqrstuvwxyz"
def isName : D → Bool
  | .str z => decide (1 ≤ z.length) && decide (z.length ≤ 4) && z.cps.toList.all fun c => decide (c ∈ SMALL.cps.toList)
  | _ => false
def isWhole (d : D) (i j : Int) : Bool := d.isInt && (!d.isBool && match d with
  | .int k => decide (i ≤ k) && decide (k ≤ j)
  | _ => false)
def isPair : D → Bool
  | .tuple [x, _] => isName x
  | _ => false
def fstD : D → D
  | .tuple (x :: _) => x
  | _ => .none
def sndD : D → D
  | .tuple (_ :: y :: _) => y
  | _ => .none
/-- each below the next -/
def risD : List D → Bool
  | x :: y :: r => PySem.W.dataLt x y && risD (y :: r)
  | _ => true
def arePipes : D → Bool
  | .tuple xs => decide (1 ≤ xs.length) && decide (xs.length ≤ 6) && xs.all isPair && (xs.all (fun p => isWhole (sndD p) 1 4) && risD (xs.map fstD))
  | _ => false
def inD (x : D) (xs : List D) : Bool := xs.any fun z => PyData.eqv z x
def rowGo (names xs : List D) : Nat → List D → Bool
  | _, [] => true
  | i, x :: r => (isName x && (inD x names && !inD x (xs.take i))) && rowGo names xs (i + 1) r
def isRow (names : List D) : D → Bool
  | .tuple xs => decide (1 ≤ xs.length) && decide (xs.length ≤ 4) && rowGo names xs 0 xs
  | _ => false
def isNet : D → Bool
  | .tuple [.tuple ps, .tuple ws] => arePipes (.tuple ps) && (decide (1 ≤ ws.length) && decide (ws.length ≤ 8) && ws.all (fun w => isPair w && isRow (ps.map fstD) (sndD w)) && risD (ws.map fstD))
  | _ => false
end Fp

set_option Elab.async false
set_option linter.all false
set_option maxRecDepth 100000
set_option maxHeartbeats 0
namespace Fp
open PySem
/-- _law_drawn: 0 _law_script, 1 _law_k, 2 _law_many, 3 _law_cell, 4 _law_turn, 5 _law_rest -/
def B__law_drawn : Ss := (.cons (.asn (.nm 3) (.bin .mul (.cst (.int 7)) (.slot 1)))
 (.cons (.ife (.cmp .ne (.slot 0) (.lst .nil)) (.cons (.asn (.nm 3) (.idx (.slot 0) (.bin .mod (.slot 1) (.blt .len (.cons (.slot 0) .nil)))))
 (.cons (.asn (.nm 4) (.bin .fdiv (.slot 1) (.blt .len (.cons (.slot 0) .nil))))
 (.cons (.ife (.and (.cmp .ge (.slot 3) (.bin .pow (.cst (.int 10)) (.cst (.int 18)))) (.cmp .lt (.slot 4) (.cst (.int 60)))) (.cons (.asn (.nm 5) (.bin .fdiv (.slot 3) (.bin .pow (.cst (.int 10)) (.cst (.int 18)))))
 (.cons (.whl (.and (.cmp .gt (.slot 5) (.cst (.int 0))) (.cmp .gt (.slot 4) (.cst (.int 0)))) (.cons (.asn (.nm 5) (.bin .fdiv (.slot 5) (.cst (.int 1000000))))
 (.cons (.asn (.nm 4) (.bin .sub (.slot 4) (.cst (.int 1))))
 .nil)))
 (.cons (.ife (.cmp .gt (.slot 5) (.cst (.int 0))) (.cons (.ret (.bin .mod (.bin .mod (.slot 5) (.cst (.int 1000000))) (.slot 2)))
 .nil) .nil)
 .nil))) .nil)
 (.cons (.asn (.nm 3) (.bin .add (.slot 3) (.bin .mul (.cst (.int 6553)) (.bin .fdiv (.slot 1) (.blt .len (.cons (.slot 0) .nil))))))
 .nil)))) .nil)
 (.cons (.asn (.nm 3) (.bin .mod (.bin .add (.bin .mul (.bin .mod (.slot 3) (.cst (.int 2147483563))) (.cst (.int 69069))) (.bin .mul (.cst (.int 104723)) (.bin .add (.slot 1) (.cst (.int 1))))) (.cst (.int 2147483563))))
 (.cons (.asn (.nm 3) (.bin .mod (.bin .add (.bin .mul (.slot 3) (.slot 3)) (.bin .fdiv (.slot 3) (.cst (.int 3)))) (.cst (.int 2147483399))))
 (.cons (.ret (.bin .mod (.bin .fdiv (.bin .mod (.bin .add (.bin .mul (.slot 3) (.slot 3)) (.bin .fdiv (.slot 3) (.cst (.int 7)))) (.cst (.int 2147483647))) (.cst (.int 11))) (.slot 2)))
 .nil)))))
/-- _law_net: 0 _law_script, 1 _law_at, 2 _law_pipes, 3 _law_k, 4 _law_ways, 5 _law_left, 6 _law_row, 7 _law_pipe, 8 _law_n -/
def B__law_net (j__law_drawn : Nat) (g__law_drawn : List D → R D) : Ss := (.cons (.own 2 (.lst .nil))
 (.cons (.for (.nm 3) (.rg1 (.bin .add (.cst (.int 1)) (.call j__law_drawn g__law_drawn (.cons (.slot 0) (.cons (.slot 1) (.cons (.cst (.int 4)) .nil)))))) (.cons (.app 2 (.tup (.cons (.idx (.cst (.str "pqrs")) (.slot 3)) (.cons (.bin .add (.cst (.int 1)) (.call j__law_drawn g__law_drawn (.cons (.slot 0) (.cons (.bin .add (.bin .add (.slot 1) (.cst (.int 1))) (.slot 3)) (.cons (.cst (.int 3)) .nil))))) .nil))))
 .nil))
 (.cons (.own 4 (.lst .nil))
 (.cons (.for (.nm 3) (.rg1 (.bin .add (.cst (.int 1)) (.call j__law_drawn g__law_drawn (.cons (.slot 0) (.cons (.bin .add (.slot 1) (.cst (.int 5))) (.cons (.cst (.int 4)) .nil)))))) (.cons (.par (.cons 5 true (.lc [7] (.nm 7) (.dat (.bor 2)) .nil (.idx (.slot 7) (.cst (.int 0)))) (.cons 6 true (.lst .nil) .nil)))
 (.cons (.for (.nm 8) (.rg1 (.bin .add (.cst (.int 1)) (.call j__law_drawn g__law_drawn (.cons (.slot 0) (.cons (.bin .add (.bin .add (.slot 1) (.cst (.int 6))) (.bin .mul (.cst (.int 4)) (.slot 3))) (.cons (.blt .min2 (.cons (.cst (.int 3)) (.cons (.blt .len (.cons (.bor 2) .nil)) .nil))) .nil)))))) (.cons (.appop 6 5 (.call j__law_drawn g__law_drawn (.cons (.slot 0) (.cons (.bin .add (.bin .add (.bin .add (.slot 1) (.cst (.int 7))) (.bin .mul (.cst (.int 4)) (.slot 3))) (.slot 8)) (.cons (.blt .len (.cons (.bor 5) .nil)) .nil)))))
 .nil))
 (.cons (.app 4 (.tup (.cons (.idx (.cst (.str "abcd")) (.slot 3)) (.cons (.blt .tuple (.cons (.bor 6) .nil)) .nil))))
 .nil))))
 (.cons (.ret (.tup (.cons (.blt .tuple (.cons (.bor 2) .nil)) (.cons (.blt .tuple (.cons (.bor 4) .nil)) .nil))))
 .nil)))))
/-- _law_state: 0 _law_script, 1 _law_at, 2 _law_net_here, 3 _law_rows, 4 _law_k, 5 _law_name, 6 _law_length, 7 _law_n -/
def B__law_state (j__law_drawn : Nat) (g__law_drawn : List D → R D) : Ss := (.cons (.par (.cons 3 true (.lst .nil) (.cons 4 false (.cst (.int 0)) .nil)))
 (.cons (.for (.t2 (.nm 5) (.nm 6)) (.dat (.idx (.slot 2) (.cst (.int 0)))) (.cons (.app 3 (.blt .tuple (.cons (.lc [7] (.nm 7) (.rg1 (.slot 6)) .nil (.idx (.lst (.cons (.cst (.str "x")) (.cons (.cst (.str "y")) (.cons (.cst (.str "z")) (.cons (.cst (.str "oil")) .nil))))) (.call j__law_drawn g__law_drawn (.cons (.slot 0) (.cons (.bin .add (.bin .add (.slot 1) (.slot 4)) (.slot 7)) (.cons (.cst (.int 4)) .nil)))))) .nil)))
 (.cons (.asn (.nm 4) (.bin .add (.slot 4) (.slot 6)))
 .nil)))
 (.cons (.ret (.blt .tuple (.cons (.bor 3) .nil)))
 .nil)))
/-- _law_bad: 0 _law_net_here, 1 _law_pipes, 2 _law_ways, 3 _law_name, 4 _law_length, 5 _law_found, 6 _law_some, 7 _law_bad_here, 8 _law_row, 9 _law_one -/
def B__law_bad : Ss := (.cons (.asn (.t2 (.nm 1) (.nm 2)) (.slot 0))
 (.cons (.asn (.t2 (.nm 3) (.nm 4)) (.idx (.slot 1) (.cst (.int 0))))
 (.cons (.own 5 (.lst (.cons (.cst .none) (.cons (.tup .nil) (.cons (.tup (.cons (.slot 1) .nil)) (.cons (.bin .add (.slot 0) (.tup (.cons (.cst (.int 0)) .nil))) (.cons (.blt .list (.cons (.slot 0) .nil)) (.cons (.tup (.cons (.blt .list (.cons (.slot 1) .nil)) (.cons (.slot 2) .nil))) .nil))))))))
 (.cons (.own 5 (.bin .add (.bor 5) (.lst (.cons (.tup (.cons (.slot 1) (.cons (.blt .list (.cons (.slot 2) .nil)) .nil))) (.cons (.tup (.cons (.tup .nil) (.cons (.slot 2) .nil))) (.cons (.tup (.cons (.slot 1) (.cons (.tup .nil) .nil))) (.cons (.tup (.cons (.bin .mul (.rev (.slot 1)) (.cst (.int 2))) (.cons (.slot 2) .nil))) .nil)))))))
 (.cons (.asn (.nm 6) (.lst (.cons (.tup (.cons (.slot 3) (.cons (.cst (.int 0)) .nil))) (.cons (.tup (.cons (.slot 3) (.cons (.cst (.int 5)) .nil))) (.cons (.tup (.cons (.slot 3) (.cons (.cst (.bool true)) .nil))) (.cons (.tup (.cons (.slot 3) (.cons (.cst (.str "1")) .nil))) (.cons (.tup (.cons (.slot 3) .nil)) .nil)))))))
 (.cons (.for (.nm 7) (.dat (.bin .add (.slot 6) (.lst (.cons (.tup (.cons (.cst (.str "")) (.cons (.cst (.int 1)) .nil))) (.cons (.tup (.cons (.cst (.str "P")) (.cons (.cst (.int 1)) .nil))) (.cons (.tup (.cons (.cst (.str "abcde")) (.cons (.cst (.int 1)) .nil))) (.cons (.tup (.cons (.cst (.int 7)) (.cons (.cst (.int 1)) .nil))) (.cons (.lst (.cons (.slot 3) (.cons (.cst (.int 1)) .nil))) .nil)))))))) (.cons (.app 5 (.tup (.cons (.bin .add (.tup (.cons (.slot 7) .nil)) (.sli (.slot 1) (.som (.cst (.int 1))) .non)) (.cons (.slot 2) .nil))))
 .nil))
 (.cons (.for (.nm 8) (.dat (.tup (.cons (.tup .nil) (.cons (.tup (.cons (.slot 3) (.cons (.slot 3) .nil))) (.cons (.tup (.cons (.cst (.str "zz")) .nil)) (.cons (.lst (.cons (.slot 3) .nil)) (.cons (.cst .none) (.cons (.tup (.cons (.cst .none) .nil)) (.cons (.slot 3) (.cons (.blt .tuple (.cons (.cst (.str "pqrstu")) .nil)) .nil)))))))))) (.cons (.app 5 (.tup (.cons (.slot 1) (.cons (.bin .add (.sli (.slot 2) .non (.som (.neg (.cst (.int 1))))) (.tup (.cons (.tup (.cons (.idx (.idx (.slot 2) (.neg (.cst (.int 1)))) (.cst (.int 0))) (.cons (.slot 8) .nil))) .nil))) .nil))))
 .nil))
 (.cons (.own 5 (.bin .add (.bor 5) (.lst (.cons (.tup (.cons (.slot 1) (.cons (.tup (.cons (.tup (.cons (.cst (.str "a")) (.cons (.tup (.cons (.slot 3) .nil)) .nil))) (.cons (.tup (.cons (.cst (.str "a")) (.cons (.tup (.cons (.slot 3) .nil)) .nil))) .nil))) .nil))) .nil))))
 (.cons (.own 5 (.bin .add (.bor 5) (.lst (.cons (.tup (.cons (.slot 1) (.cons (.tup (.cons (.tup (.cons (.cst (.str "b")) (.cons (.tup (.cons (.slot 3) .nil)) .nil))) (.cons (.tup (.cons (.cst (.str "a")) (.cons (.tup (.cons (.slot 3) .nil)) .nil))) .nil))) .nil))) (.cons (.tup (.cons (.slot 1) (.cons (.tup (.cons (.tup (.cons (.cst (.str "A")) (.cons (.tup (.cons (.slot 3) .nil)) .nil))) .nil)) .nil))) .nil)))))
 (.cons (.app 5 (.tup (.cons (.slot 1) (.cons (.blt .tuple (.cons (.lc [9] (.nm 9) (.dat (.cst (.str "abcdefghi"))) .nil (.tup (.cons (.slot 9) (.cons (.tup (.cons (.slot 3) .nil)) .nil)))) .nil)) .nil))))
 (.cons (.ret (.bin .add (.bor 5) (.lst (.cons (.tup (.cons (.blt .tuple (.cons (.lc [9] (.nm 9) (.dat (.cst (.str "abcdefg"))) .nil (.tup (.cons (.slot 9) (.cons (.cst (.int 1)) .nil)))) .nil)) (.cons (.tup (.cons (.tup (.cons (.cst (.str "a")) (.cons (.tup (.cons (.cst (.str "a")) .nil)) .nil))) .nil)) .nil))) .nil))))
 .nil)))))))))))
/-- is_rising: 0 things, 1 one, 2 other -/
def B_is_rising : Ss := (.cons (.ret (.blt .all (.cons (.lc [1, 2] (.t2 (.nm 1) (.nm 2)) (.zip (.slot 0) (.sli (.slot 0) (.som (.cst (.int 1))) .non)) .nil (.cmp .lt (.slot 1) (.slot 2))) .nil)))
 .nil)
/-- is_whole: 0 thing, 1 least, 2 most -/
def B_is_whole : Ss := (.cons (.ret (.and (.isi (.slot 0) .int) (.and (.not (.isi (.slot 0) .bool)) (.chn (.slot 1) (.slot 0) (.slot 2)))))
 .nil)
/-- is_name: 0 thing, 1 sign -/
def B_is_name : Ss := (.cons (.ret (.and (.isi (.slot 0) .str) (.and (.chn (.cst (.int 1)) (.blt .len (.cons (.slot 0) .nil)) (.glo "LONGEST" (.int 4))) (.blt .all (.cons (.lc [1] (.nm 1) (.dat (.slot 0)) .nil (.cmp .isin (.slot 1) (.glo "SMALL" (.str "abcdefghijklmnopqrstuvwxyz")))) .nil)))))
 .nil)
/-- is_pair: 0 thing -/
def B_is_pair (j_is_name : Nat) (g_is_name : List D → R D) : Ss := (.cons (.ret (.and (.isi (.slot 0) .tuple) (.and (.cmp .eq (.blt .len (.cons (.slot 0) .nil)) (.cst (.int 2))) (.call j_is_name g_is_name (.cons (.idx (.slot 0) (.cst (.int 0))) .nil)))))
 .nil)
/-- are_pipes: 0 thing, 1 pipe -/
def B_are_pipes (j_is_pair : Nat) (g_is_pair : List D → R D) (j_is_rising : Nat) (g_is_rising : List D → R D) (j_is_whole : Nat) (g_is_whole : List D → R D) : Ss := (.cons (.ife (.or (.not (.isi (.slot 0) .tuple)) (.or (.not (.chn (.cst (.int 1)) (.blt .len (.cons (.slot 0) .nil)) (.glo "MOST_PIPES" (.int 6)))) (.not (.blt .all (.cons (.lc [1] (.nm 1) (.dat (.slot 0)) .nil (.call j_is_pair g_is_pair (.cons (.slot 1) .nil))) .nil))))) (.cons (.ret (.cst (.bool false)))
 .nil) .nil)
 (.cons (.ret (.and (.blt .all (.cons (.lc [1] (.nm 1) (.dat (.slot 0)) .nil (.call j_is_whole g_is_whole (.cons (.idx (.slot 1) (.cst (.int 1))) (.cons (.cst (.int 1)) (.cons (.glo "MOST_LENGTH" (.int 4)) .nil))))) .nil)) (.call j_is_rising g_is_rising (.cons (.lc [1] (.nm 1) (.dat (.slot 0)) .nil (.idx (.slot 1) (.cst (.int 0)))) .nil))))
 .nil))
/-- is_row: 0 names, 1 thing, 2 at, 3 name -/
def B_is_row (j_is_name : Nat) (g_is_name : List D → R D) : Ss := (.cons (.ife (.or (.not (.isi (.slot 1) .tuple)) (.not (.chn (.cst (.int 1)) (.blt .len (.cons (.slot 1) .nil)) (.glo "MOST_ROW" (.int 4))))) (.cons (.ret (.cst (.bool false)))
 .nil) .nil)
 (.cons (.ret (.blt .all (.cons (.lc [2, 3] (.t2 (.nm 2) (.nm 3)) (.enu (.slot 1)) .nil (.and (.call j_is_name g_is_name (.cons (.slot 3) .nil)) (.and (.cmp .isin (.slot 3) (.slot 0)) (.cmp .notin (.slot 3) (.sli (.slot 1) .non (.som (.slot 2))))))) .nil)))
 .nil))
/-- is_net: 0 thing, 1 pipes, 2 ways, 3 names, 4 pipe, 5 way -/
def B_is_net (j_are_pipes : Nat) (g_are_pipes : List D → R D) (j_is_row : Nat) (g_is_row : List D → R D) (j_is_pair : Nat) (g_is_pair : List D → R D) (j_is_rising : Nat) (g_is_rising : List D → R D) : Ss := (.cons (.ife (.or (.not (.isi (.slot 0) .tuple)) (.or (.cmp .ne (.blt .len (.cons (.slot 0) .nil)) (.cst (.int 2))) (.or (.not (.call j_are_pipes g_are_pipes (.cons (.idx (.slot 0) (.cst (.int 0))) .nil))) (.not (.isi (.idx (.slot 0) (.cst (.int 1))) .tuple))))) (.cons (.ret (.cst (.bool false)))
 .nil) .nil)
 (.cons (.asn (.t2 (.nm 1) (.nm 2)) (.slot 0))
 (.cons (.asn (.nm 3) (.lc [4] (.nm 4) (.dat (.slot 1)) .nil (.idx (.slot 4) (.cst (.int 0)))))
 (.cons (.ife (.or (.not (.chn (.cst (.int 1)) (.blt .len (.cons (.slot 2) .nil)) (.glo "MOST_WAYS" (.int 8)))) (.not (.blt .all (.cons (.lc [5] (.nm 5) (.dat (.slot 2)) .nil (.and (.call j_is_pair g_is_pair (.cons (.slot 5) .nil)) (.call j_is_row g_is_row (.cons (.slot 3) (.cons (.idx (.slot 5) (.cst (.int 1))) .nil))))) .nil)))) (.cons (.ret (.cst (.bool false)))
 .nil) .nil)
 (.cons (.ret (.call j_is_rising g_is_rising (.cons (.lc [5] (.nm 5) (.dat (.slot 2)) .nil (.idx (.slot 5) (.cst (.int 0)))) .nil)))
 .nil)))))
/-- look_net: 0 thing -/
def B_look_net (j_is_net : Nat) (g_is_net : List D → R D) : Ss := (.cons (.ife (.not (.call j_is_net g_is_net (.cons (.slot 0) .nil))) (.cons (.rse "NoNet")
 .nil) .nil)
 .nil)
/-- is_state_of: 0 net, 1 thing, 2 row, 3 pipe, 4 slug -/
def B_is_state_of (j_is_name : Nat) (g_is_name : List D → R D) : Ss := (.cons (.ife (.or (.not (.isi (.slot 1) .tuple)) (.or (.cmp .ne (.blt .len (.cons (.slot 1) .nil)) (.blt .len (.cons (.idx (.slot 0) (.cst (.int 0))) .nil))) (.not (.blt .all (.cons (.lc [2] (.nm 2) (.dat (.slot 1)) .nil (.isi (.slot 2) .tuple)) .nil))))) (.cons (.ret (.cst (.bool false)))
 .nil) .nil)
 (.cons (.ife (.not (.blt .all (.cons (.lc [2, 3] (.t2 (.nm 2) (.nm 3)) (.zip (.slot 1) (.idx (.slot 0) (.cst (.int 0)))) .nil (.cmp .eq (.blt .len (.cons (.slot 2) .nil)) (.idx (.slot 3) (.cst (.int 1))))) .nil))) (.cons (.ret (.cst (.bool false)))
 .nil) .nil)
 (.cons (.ret (.blt .all (.cons (.lc2 [2, 4] (.nm 2) (.dat (.slot 1)) .nil (.nm 4) (.dat (.slot 2)) .nil (.call j_is_name g_is_name (.cons (.slot 4) .nil))) .nil)))
 .nil)))
/-- is_state: 0 net, 1 thing -/
def B_is_state (j_look_net : Nat) (g_look_net : List D → R D) (j_is_state_of : Nat) (g_is_state_of : List D → R D) : Ss := (.cons (.exp (.call j_look_net g_look_net (.cons (.slot 0) .nil)))
 (.cons (.ret (.call j_is_state_of g_is_state_of (.cons (.slot 0) (.cons (.slot 1) .nil))))
 .nil))
/-- _law_no: 0 _law_net_here, 1 e -/
def B__law_no (exs : List Str) (j_is_state : Nat) (g_is_state : List D → R D) : Ss := (.cons (.tryx (.cons (.exp (.call j_is_state g_is_state (.cons (.slot 0) (.cons (.tup .nil) .nil))))
 .nil) 1 "PipeError" exs (.cons (.ret (.exi 1 "NoNet"))
 .nil))
 (.cons (.ret (.cst (.bool false)))
 .nil))
/-- law: 0 _law_script, 1 _law_net_here, 2 _law_state_here, 3 _law_bad_here, 4 _law_six, 5 _law_one, 6 _law_odd, 7 _law_slug, 8 _law_thing -/
def B_law (j__law_net : Nat) (g__law_net : List D → R D) (j__law_state : Nat) (g__law_state : List D → R D) (j_is_state : Nat) (g_is_state : List D → R D) (j_is_net : Nat) (g_is_net : List D → R D) (j__law_bad : Nat) (g__law_bad : List D → R D) (j__law_no : Nat) (g__law_no : List D → R D) : Ss := (.cons (.asn (.nm 1) (.call j__law_net g__law_net (.cons (.slot 0) (.cons (.cst (.int 10)) .nil))))
 (.cons (.asn (.nm 2) (.call j__law_state g__law_state (.cons (.slot 0) (.cons (.cst (.int 60)) (.cons (.slot 1) .nil)))))
 (.cons (.ife (.or (.isk true (.call j_is_net g_is_net (.cons (.slot 1) .nil)) .tru) (.isk true (.call j_is_state g_is_state (.cons (.slot 1) (.cons (.slot 2) .nil))) .tru)) (.cons (.ret (.cst (.bool false)))
 .nil) .nil)
 (.cons (.for (.nm 3) (.dat (.call j__law_bad g__law_bad (.cons (.slot 1) .nil))) (.cons (.ife (.or (.isk true (.call j_is_net g_is_net (.cons (.slot 3) .nil)) .fls) (.not (.call j__law_no g__law_no (.cons (.slot 3) .nil)))) (.cons (.ret (.cst (.bool false)))
 .nil) .nil)
 .nil))
 (.cons (.asn (.nm 4) (.blt .tuple (.cons (.lc [5] (.nm 5) (.dat (.cst (.str "abcdef"))) .nil (.tup (.cons (.slot 5) (.cons (.cst (.int 4)) .nil)))) .nil)))
 (.cons (.ife (.isk true (.call j_is_net g_is_net (.cons (.tup (.cons (.slot 4) (.cons (.blt .tuple (.cons (.lc [5] (.nm 5) (.dat (.cst (.str "abcdefgh"))) .nil (.tup (.cons (.slot 5) (.cons (.tup (.cons (.cst (.str "a")) (.cons (.cst (.str "c")) (.cons (.cst (.str "b")) (.cons (.cst (.str "f")) .nil))))) .nil)))) .nil)) .nil))) .nil)) .tru) (.cons (.ret (.cst (.bool false)))
 .nil) .nil)
 (.cons (.ife (.isk true (.call j_is_net g_is_net (.cons (.tup (.cons (.slot 4) (.cons (.tup (.cons (.tup (.cons (.cst (.str "a")) (.cons (.tup (.cons (.cst (.str "a")) (.cons (.cst (.str "b")) (.cons (.cst (.str "c")) (.cons (.cst (.str "d")) (.cons (.cst (.str "e")) .nil)))))) .nil))) .nil)) .nil))) .nil)) .fls) (.cons (.ret (.cst (.bool false)))
 .nil) .nil)
 (.cons (.own 6 (.lst (.cons (.cst .none) (.cons (.tup .nil) (.cons (.blt .list (.cons (.slot 2) .nil)) (.cons (.sli (.slot 2) (.som (.cst (.int 1))) .non) (.cons (.bin .add (.slot 2) (.sli (.slot 2) .non (.som (.cst (.int 1))))) .nil)))))))
 (.cons (.own 6 (.bin .add (.bor 6) (.lst (.cons (.bin .add (.tup (.cons (.bin .add (.idx (.slot 2) (.cst (.int 0))) (.tup (.cons (.cst (.str "x")) .nil))) .nil)) (.sli (.slot 2) (.som (.cst (.int 1))) .non)) (.cons (.bin .add (.tup (.cons (.sli (.idx (.slot 2) (.cst (.int 0))) (.som (.cst (.int 1))) .non) .nil)) (.sli (.slot 2) (.som (.cst (.int 1))) .non)) .nil)))))
 (.cons (.own 6 (.bin .add (.bor 6) (.lst (.cons (.bin .add (.tup (.cons (.blt .list (.cons (.idx (.slot 2) (.cst (.int 0))) .nil)) .nil)) (.sli (.slot 2) (.som (.cst (.int 1))) .non)) .nil))))
 (.cons (.for (.nm 7) (.dat (.tup (.cons (.cst .none) (.cons (.cst (.str "")) (.cons (.cst (.str "X")) (.cons (.cst (.str "abcde")) (.cons (.cst (.int 7)) (.cons (.tup (.cons (.cst (.str "x")) .nil)) .nil)))))))) (.cons (.app 6 (.bin .add (.tup (.cons (.bin .add (.tup (.cons (.slot 7) .nil)) (.sli (.idx (.slot 2) (.cst (.int 0))) (.som (.cst (.int 1))) .non)) .nil)) (.sli (.slot 2) (.som (.cst (.int 1))) .non)))
 .nil))
 (.cons (.ret (.cmp .eq (.lc [8] (.nm 8) (.dat (.bor 6)) (.one (.isk true (.call j_is_state g_is_state (.cons (.slot 1) (.cons (.slot 8) .nil))) .fls)) (.slot 8)) (.lst .nil)))
 .nil))))))))))))
end Fp

set_option Elab.async false
set_option linter.all false
set_option maxRecDepth 100000
set_option maxHeartbeats 1000000
/-! The program's looks, as plain functions. -/
namespace Fp
open PySem
theorem is_whole_ok (d : D) (i j : Int) : runF 3 3 B_is_whole [d, .int i, .int j] = .ok (.bool (isWhole d i j)) := by
  rw [run1 (np := 3) rfl]
  unfold B_is_whole
  rw [ret1]
  cases d with
  | int k =>
    apply ok_of
    · (repeat' (first | (with_reducible apply ev_slot; exact rfl) | with_reducible exact ev_cst | with_reducible exact ev_glo | (with_reducible apply ev_borv; exact rfl) | (with_reducible apply ev_boro; exact rfl) | with_reducible exact evs_nil | with_reducible exact evo_non | with_reducible apply evo_som | with_reducible apply evs_cons | with_reducible apply ev_and | with_reducible apply ev_or | with_reducible apply ev_not | with_reducible apply ev_chn | with_reducible apply ev_isi | with_reducible apply ev_isk | with_reducible apply ev_cmp | with_reducible apply ev_idx' | with_reducible apply ev_bin' | with_reducible apply ev_sli' | with_reducible apply ev_rev' | with_reducible apply ev_neg | with_reducible apply ev_call' | with_reducible apply ev_all | with_reducible apply ev_blt' | with_reducible apply ev_tup | with_reducible apply ev_lst | with_reducible apply ev_lc | with_reducible apply ev_lcf | with_reducible apply it_dat | with_reducible apply it_zip | with_reducible apply it_enu | (show ∃ env', _ = R.ok env' ∧ _; refine ⟨_, rfl, ?_⟩) | (show ∃ env', _ = R.ok env' ∧ _ ∧ _; refine ⟨_, rfl, ?_, ?_⟩) | (show ∀ _, (_ : Prop); intro _) | (show sz _ = true; apply szAll_mem <;> assumption) | (show (_ : Nat) ≤ _; omega) | (show (_ : Nat) ≤ _; simp only [List.length_map]; omega) | (show _ ∈ _; assumption) | (first | exact dIdxT0 | exact dIdxT1 | exact dIdxL0 | exact dIdxL1 | exact dEq_int | exact dLt_int | exact dLe_int | apply dne_ok | apply dnotin_ok | (show _ = _; assumption) | exact rfl | (show _ = _; apply_assumption))))
    · simp [isWhole, isTy, PyData.isInt, PyData.isBool]
  | _ => rfl
def sgnD : D → Bool
  | .str y => (match y.cps.toList with
    | [c] => decide (c ∈ SMALL.cps.toList)
    | _ => false)
  | _ => false
theorem is_name_ok (d : D) (h : sz d = true) : runF 1 2 B_is_name [d] = .ok (.bool (isName d)) := by
  rw [run1 (np := 1) rfl]
  unfold B_is_name
  rw [ret1]
  cases d with
  | str z =>
    have hz : z.length ≤ 1000000 := by simpa [sz] using h
    have hz2 : z.cps.toList.length = z.length := by simp [Str.length]
    have e1 : dBlt .len [.str z] = .ok (.int z.length) := by simp [dBlt]; omega
    apply ok_of
    · (repeat' (first | (with_reducible apply ev_slot; exact rfl) | with_reducible exact ev_cst | with_reducible exact ev_glo | (with_reducible apply ev_borv; exact rfl) | (with_reducible apply ev_boro; exact rfl) | with_reducible exact evs_nil | with_reducible exact evo_non | with_reducible apply evo_som | with_reducible apply evs_cons | with_reducible apply ev_and | with_reducible apply ev_or | with_reducible apply ev_not | with_reducible apply ev_chn | with_reducible apply ev_isi | with_reducible apply ev_isk | with_reducible apply ev_cmp | with_reducible apply ev_idx' | with_reducible apply ev_bin' | with_reducible apply ev_sli' | with_reducible apply ev_rev' | with_reducible apply ev_neg | with_reducible apply ev_call' | with_reducible apply ev_all | with_reducible apply ev_blt' | with_reducible apply ev_tup | with_reducible apply ev_lst | with_reducible apply ev_lc | with_reducible apply ev_lcf | with_reducible apply it_dat | with_reducible apply it_zip | with_reducible apply it_enu | (show ∃ env', _ = R.ok env' ∧ _; refine ⟨_, rfl, ?_⟩) | (show ∃ env', _ = R.ok env' ∧ _ ∧ _; refine ⟨_, rfl, ?_, ?_⟩) | (show ∀ _, (_ : Prop); intro _) | (show sz _ = true; apply szAll_mem <;> assumption) | (show (_ : Nat) ≤ _; omega) | (show (_ : Nat) ≤ _; simp only [List.length_map]; omega) | (show _ ∈ _; assumption) | (first | exact dIdxT0 | exact dIdxT1 | exact dIdxL0 | exact dIdxL1 | exact dEq_int | exact dLt_int | exact dLe_int | apply dne_ok | apply dnotin_ok | (show _ = _; assumption) | exact rfl | (show _ = _; apply_assumption))))
      · rename_i x hx
        have key : dCmp .isin x (.str SMALL) = .ok (sgnD x) := by
          obtain ⟨c, _, rfl⟩ := List.mem_map.mp hx
          rfl
        exact key
    · rw [List.all_map]
      have e2 : ((1 : Int) ≤ (z.length : Int)) ↔ 1 ≤ z.length := by omega
      have e3 : ((z.length : Int) ≤ 4) ↔ z.length ≤ 4 := by omega
      simp only [isName, isTy, PyData.isStr, Function.comp_def, sgnD, Bool.true_and, e2, e3]
  | _ => rfl
theorem is_pair_ok {g : List D → R D} (j : Nat) (hg : ∀ d, sz d = true → g [d] = .ok (.bool (isName d))) (d : D) (h : sz d = true) : runF 1 1 (B_is_pair j g) [d] = .ok (.bool (isPair d)) := by
  rw [run1 (np := 1) rfl]
  unfold B_is_pair
  rw [ret1]
  cases d with
  | tuple xs =>
    obtain ⟨hl, hs⟩ := sz_tuple h
    match xs, hs with
    | [x, y], hs =>
      have hx := hg x (szAll_mem hs List.mem_cons_self)
      apply ok_of
      · (repeat' (first | (with_reducible apply ev_slot; exact rfl) | with_reducible exact ev_cst | with_reducible exact ev_glo | (with_reducible apply ev_borv; exact rfl) | (with_reducible apply ev_boro; exact rfl) | with_reducible exact evs_nil | with_reducible exact evo_non | with_reducible apply evo_som | with_reducible apply evs_cons | with_reducible apply ev_and | with_reducible apply ev_or | with_reducible apply ev_not | with_reducible apply ev_chn | with_reducible apply ev_isi | with_reducible apply ev_isk | with_reducible apply ev_cmp | with_reducible apply ev_idx' | with_reducible apply ev_bin' | with_reducible apply ev_sli' | with_reducible apply ev_rev' | with_reducible apply ev_neg | with_reducible apply ev_call' | with_reducible apply ev_all | with_reducible apply ev_blt' | with_reducible apply ev_tup | with_reducible apply ev_lst | with_reducible apply ev_lc | with_reducible apply ev_lcf | with_reducible apply it_dat | with_reducible apply it_zip | with_reducible apply it_enu | (show ∃ env', _ = R.ok env' ∧ _; refine ⟨_, rfl, ?_⟩) | (show ∃ env', _ = R.ok env' ∧ _ ∧ _; refine ⟨_, rfl, ?_, ?_⟩) | (show ∀ _, (_ : Prop); intro _) | (show sz _ = true; apply szAll_mem <;> assumption) | (show (_ : Nat) ≤ _; omega) | (show (_ : Nat) ≤ _; simp only [List.length_map]; omega) | (show _ ∈ _; assumption) | (first | exact dIdxT0 | exact dIdxT1 | exact dIdxL0 | exact dIdxL1 | exact dEq_int | exact dLt_int | exact dLe_int | apply dne_ok | apply dnotin_ok | (show _ = _; assumption) | exact rfl | (show _ = _; apply_assumption))))
      · simp [isTy, PyData.isTuple, isPair]
    | [], hs => rfl
    | [x], hs => rfl
    | x :: y :: z :: r, hs =>
      have hx := hg x (szAll_mem hs List.mem_cons_self)
      apply ok_of
      · (repeat' (first | (with_reducible apply ev_slot; exact rfl) | with_reducible exact ev_cst | with_reducible exact ev_glo | (with_reducible apply ev_borv; exact rfl) | (with_reducible apply ev_boro; exact rfl) | with_reducible exact evs_nil | with_reducible exact evo_non | with_reducible apply evo_som | with_reducible apply evs_cons | with_reducible apply ev_and | with_reducible apply ev_or | with_reducible apply ev_not | with_reducible apply ev_chn | with_reducible apply ev_isi | with_reducible apply ev_isk | with_reducible apply ev_cmp | with_reducible apply ev_idx' | with_reducible apply ev_bin' | with_reducible apply ev_sli' | with_reducible apply ev_rev' | with_reducible apply ev_neg | with_reducible apply ev_call' | with_reducible apply ev_all | with_reducible apply ev_blt' | with_reducible apply ev_tup | with_reducible apply ev_lst | with_reducible apply ev_lc | with_reducible apply ev_lcf | with_reducible apply it_dat | with_reducible apply it_zip | with_reducible apply it_enu | (show ∃ env', _ = R.ok env' ∧ _; refine ⟨_, rfl, ?_⟩) | (show ∃ env', _ = R.ok env' ∧ _ ∧ _; refine ⟨_, rfl, ?_, ?_⟩) | (show ∀ _, (_ : Prop); intro _) | (show sz _ = true; apply szAll_mem <;> assumption) | (show (_ : Nat) ≤ _; omega) | (show (_ : Nat) ≤ _; simp only [List.length_map]; omega) | (show _ ∈ _; assumption) | (first | exact dIdxT0 | exact dIdxT1 | exact dIdxL0 | exact dIdxL1 | exact dEq_int | exact dLt_int | exact dLe_int | apply dne_ok | apply dnotin_ok | (show _ = _; assumption) | exact rfl | (show _ = _; apply_assumption))))
      · have : ¬ ((((x :: y :: z :: r : List D).length : Nat) : Int) = 2) := by simp; omega
        simp [isTy, PyData.isTuple, isPair, this]
        omega
  | _ => rfl
/-! ### rising -/
def names (xs : List D) : Bool := xs.all isName
theorem lt_names {x y : D} (hx : isName x = true) (hy : isName y = true) : dLt x y = .ok (PySem.W.dataLt x y) := by
  cases x <;> cases y <;> first
    | rfl
    | (cases hx; done)
    | (cases hy; done)
theorem zip_ris : ∀ {xs : List D}, (zipD xs (cutD xs (some 1) none)).all (fun p => PySem.W.dataLt (fstD p) (sndD p)) = risD xs
  | [] => rfl
  | [x] => rfl
  | x :: y :: r => by
    have e : ∀ zs : List D, cutD (x :: zs) (some 1) none = zs := fun zs => by
      have h1 : HT.sIx (x :: zs).length 0 (some 1) = 1 := by
        have := HT.sIx_nat (x :: zs).length 0 1
        rw [show ((1 : Nat) : Int) = 1 from rfl] at this
        rw [this]; simp
      unfold cutD
      rw [h1]
      simp [HT.sIx]
    have e' : ∀ (w : D) (zs : List D), cutD (w :: zs) (some 1) none = zs := fun w zs => by
      have h1 : HT.sIx (w :: zs).length 0 (some 1) = 1 := by
        have := HT.sIx_nat (w :: zs).length 0 1
        rw [show ((1 : Nat) : Int) = 1 from rfl] at this
        rw [this]; simp
      unfold cutD
      rw [h1]
      simp [HT.sIx]
    have ih := zip_ris (xs := y :: r)
    rw [e' y r] at ih
    rw [e' x (y :: r)]
    unfold zipD at ih ⊢
    rw [List.zipWith_cons_cons, List.all_cons, ih, risD]
    rfl
theorem mem_zipD {xs ys : List D} {p : D} (h : p ∈ zipD xs ys) : ∃ x y, x ∈ xs ∧ y ∈ ys ∧ p = .tuple [x, y] := by
  unfold zipD at h
  induction xs generalizing ys with
  | nil => simp at h
  | cons x xs ih =>
    cases ys with
    | nil => simp at h
    | cons y ys =>
      rw [List.zipWith_cons_cons] at h
      rcases List.mem_cons.mp h with rfl | h
      · exact ⟨x, y, List.mem_cons_self, List.mem_cons_self, rfl⟩
      · obtain ⟨a, b, h1, h2, h3⟩ := ih h
        exact ⟨a, b, List.mem_cons_of_mem _ h1, List.mem_cons_of_mem _ h2, h3⟩
theorem mem_cutD {xs : List D} {lo hi : Option Int} {x : D} (h : x ∈ cutD xs lo hi) : x ∈ xs := List.mem_of_mem_drop (List.mem_of_mem_take h)
theorem is_rising_ok (xs : List D) (hl : xs.length ≤ 1000000) (hn : names xs = true) : runF 1 3 B_is_rising [.list xs] = .ok (.bool (risD xs)) := by
  rw [run1 (np := 1) rfl]
  unfold B_is_rising
  rw [ret1]
  apply ok_of
  · (repeat' (first | (with_reducible apply ev_slot; exact rfl) | with_reducible exact ev_cst | with_reducible exact ev_glo | (with_reducible apply ev_borv; exact rfl) | (with_reducible apply ev_boro; exact rfl) | with_reducible exact evs_nil | with_reducible exact evo_non | with_reducible apply evo_som | with_reducible apply evs_cons | with_reducible apply ev_and | with_reducible apply ev_or | with_reducible apply ev_not | with_reducible apply ev_chn | with_reducible apply ev_isi | with_reducible apply ev_isk | with_reducible apply ev_cmp | with_reducible apply ev_idx' | with_reducible apply ev_bin' | with_reducible apply ev_sli' | with_reducible apply ev_rev' | with_reducible apply ev_neg | with_reducible apply ev_call' | with_reducible apply ev_all | with_reducible apply ev_blt' | with_reducible apply ev_tup | with_reducible apply ev_lst | with_reducible apply ev_lc | with_reducible apply ev_lcf | with_reducible apply it_dat | with_reducible apply it_zip | with_reducible apply it_enu | (show ∃ env', _ = R.ok env' ∧ _; refine ⟨_, rfl, ?_⟩) | (show ∃ env', _ = R.ok env' ∧ _ ∧ _; refine ⟨_, rfl, ?_, ?_⟩) | (show ∀ _, (_ : Prop); intro _) | (show sz _ = true; apply szAll_mem <;> assumption) | (show (_ : Nat) ≤ _; omega) | (show (_ : Nat) ≤ _; simp only [List.length_map]; omega) | (show _ ∈ _; assumption) | (first | exact dIdxT0 | exact dIdxT1 | exact dIdxL0 | exact dIdxL1 | exact dEq_int | exact dLt_int | exact dLe_int | apply dne_ok | apply dnotin_ok | (show _ = _; assumption) | exact rfl | (show _ = _; apply_assumption))))
    · unfold zipD; rw [List.length_zipWith]; omega
    · rename_i p hp
      have key : ∃ env', asg (.t2 (.nm 1) (.nm 2)) p (wipeE [.val (.list xs), .un, .un] [1, 2]) = .ok env' ∧ evE (.cmp .lt (.slot 1) (.slot 2)) env' = .ok (.bool (PySem.W.dataLt (fstD p) (sndD p))) := by
        obtain ⟨x, y, h1, h2, rfl⟩ := mem_zipD hp
        have k1 := List.all_eq_true.mp hn x h1
        have k2 := List.all_eq_true.mp hn y (mem_cutD h2)
        exact ⟨_, rfl, ev_cmp (ev_slot rfl) (ev_slot rfl) (lt_names k1 k2)⟩
      exact key
  · rw [zip_ris]
/-! ### pipes, rows, nets -/
theorem ifret_out {env : Env} {c a : E} {p : Bool} {x : D} {r : Ss} (h : evE c env = .ok (.bool p)) (ha : evE a env = .ok x) : (exSs (.cons (.ife c (.cons (.ret a) .nil) .nil) r) env).out = if p = true then .ok x else (exSs r env).out := by
  rw [ex_ifret (r := r) h fun _ => ha]
  cases p <;> rfl
theorem pair_idx {d : D} (h : isPair d = true) : dIdx d (.int 0) = .ok (fstD d) ∧ dIdx d (.int 1) = .ok (sndD d) ∧ isName (fstD d) = true := by
  unfold isPair at h
  split at h
  · exact ⟨rfl, rfl, h⟩
  · cases h
theorem pair_of {d : D} (h : isPair d = true) : ∃ x y, d = .tuple [x, y] ∧ isName x = true := by
  unfold isPair at h
  split at h
  · exact ⟨_, _, rfl, h⟩
  · cases h
theorem names_fst {xs : List D} (h : xs.all isPair = true) : names (xs.map fstD) = true := by
  unfold names
  rw [List.all_map]
  exact List.all_eq_true.mpr fun x hx => (pair_idx (List.all_eq_true.mp h x hx)).2.2
theorem are_pipes_ok {g1 g2 g3 : List D → R D} (j1 j2 j3 : Nat) (h1 : ∀ d, sz d = true → g1 [d] = .ok (.bool (isPair d))) (h2 : ∀ xs : List D, xs.length ≤ 1000000 → names xs = true → g2 [.list xs] = .ok (.bool (risD xs)))
    (h3 : ∀ d i j, g3 [d, .int i, .int j] = .ok (.bool (isWhole d i j))) (d : D) (h : sz d = true) : runF 1 2 (B_are_pipes j1 g1 j2 g2 j3 g3) [d] = .ok (.bool (arePipes d)) := by
  rw [run1 (np := 1) rfl]
  unfold B_are_pipes
  cases d with
  | tuple xs =>
    obtain ⟨hl, hs⟩ := sz_tuple h
    have hif : evE (.or (.not (.isi (.slot 0) .tuple)) (.or (.not (.chn (.cst (.int 1)) (.blt .len (.cons (.slot 0) .nil)) (.glo "MOST_PIPES" (.int 6)))) (.not (.blt .all (.cons (.lc [1] (.nm 1) (.dat (.slot 0)) .nil (.call j1 g1 (.cons (.slot 1) .nil))) .nil))))) [.val (.tuple xs), .un] =
        .ok (.bool (!(decide (1 ≤ xs.length) && decide (xs.length ≤ 6) && xs.all isPair))) := by
      apply ok_of
      · (repeat' (first | (with_reducible apply ev_slot; exact rfl) | with_reducible exact ev_cst | with_reducible exact ev_glo | (with_reducible apply ev_borv; exact rfl) | (with_reducible apply ev_boro; exact rfl) | with_reducible exact evs_nil | with_reducible exact evo_non | with_reducible apply evo_som | with_reducible apply evs_cons | with_reducible apply ev_and | with_reducible apply ev_or | with_reducible apply ev_not | with_reducible apply ev_chn | with_reducible apply ev_isi | with_reducible apply ev_isk | with_reducible apply ev_cmp | with_reducible apply ev_idx' | with_reducible apply ev_bin' | with_reducible apply ev_sli' | with_reducible apply ev_rev' | with_reducible apply ev_neg | with_reducible apply ev_call' | with_reducible apply ev_all | with_reducible apply ev_blt' | with_reducible apply ev_tup | with_reducible apply ev_lst | with_reducible apply ev_lc | with_reducible apply ev_lcf | with_reducible apply it_dat | with_reducible apply it_zip | with_reducible apply it_enu | (show ∃ env', _ = R.ok env' ∧ _; refine ⟨_, rfl, ?_⟩) | (show ∃ env', _ = R.ok env' ∧ _ ∧ _; refine ⟨_, rfl, ?_, ?_⟩) | (show ∀ _, (_ : Prop); intro _) | (show sz _ = true; apply szAll_mem <;> assumption) | (show (_ : Nat) ≤ _; omega) | (show (_ : Nat) ≤ _; simp only [List.length_map]; omega) | (show _ ∈ _; assumption) | (first | exact dIdxT0 | exact dIdxT1 | exact dIdxL0 | exact dIdxL1 | exact dEq_int | exact dLt_int | exact dLe_int | apply dne_ok | apply dnotin_ok | (show _ = _; assumption) | exact rfl | (show _ = _; apply_assumption))))
      · have e2 : ((1 : Int) ≤ (xs.length : Int)) ↔ 1 ≤ xs.length := by omega
        have e3 : ((xs.length : Int) ≤ 6) ↔ xs.length ≤ 6 := by omega
        simp only [isTy, PyData.isTuple, Bool.not_true, Bool.false_or, e2, e3, Bool.not_and]
    refine (ifret_out hif rfl).trans ?_
    by_cases hp : (decide (1 ≤ xs.length) && decide (xs.length ≤ 6) && xs.all isPair) = true
    · rw [hp, if_neg (by simp), ret1]
      have hq := hp
      simp only [Bool.and_eq_true] at hq
      have hn := names_fst hq.2
      have hn2 : (xs.map fstD).length ≤ 1000000 := by rw [List.length_map]; exact hl
      have i0 : ∀ x ∈ xs, dIdx x (.int 0) = .ok (fstD x) := fun x hx => (pair_idx (List.all_eq_true.mp hq.2 x hx)).1
      have i1 : ∀ x ∈ xs, dIdx x (.int 1) = .ok (sndD x) := fun x hx => (pair_idx (List.all_eq_true.mp hq.2 x hx)).2.1
      apply ok_of
      · (repeat' (first | (with_reducible apply ev_slot; exact rfl) | with_reducible exact ev_cst | with_reducible exact ev_glo | (with_reducible apply ev_borv; exact rfl) | (with_reducible apply ev_boro; exact rfl) | with_reducible exact evs_nil | with_reducible exact evo_non | with_reducible apply evo_som | with_reducible apply evs_cons | with_reducible apply ev_and | with_reducible apply ev_or | with_reducible apply ev_not | with_reducible apply ev_chn | with_reducible apply ev_isi | with_reducible apply ev_isk | with_reducible apply ev_cmp | with_reducible apply ev_idx' | with_reducible apply ev_bin' | with_reducible apply ev_sli' | with_reducible apply ev_rev' | with_reducible apply ev_neg | with_reducible apply ev_call' | with_reducible apply ev_all | with_reducible apply ev_blt' | with_reducible apply ev_tup | with_reducible apply ev_lst | with_reducible apply ev_lc | with_reducible apply ev_lcf | with_reducible apply it_dat | with_reducible apply it_zip | with_reducible apply it_enu | (show ∃ env', _ = R.ok env' ∧ _; refine ⟨_, rfl, ?_⟩) | (show ∃ env', _ = R.ok env' ∧ _ ∧ _; refine ⟨_, rfl, ?_, ?_⟩) | (show ∀ _, (_ : Prop); intro _) | (show sz _ = true; apply szAll_mem <;> assumption) | (show (_ : Nat) ≤ _; omega) | (show (_ : Nat) ≤ _; simp only [List.length_map]; omega) | (show _ ∈ _; assumption) | (first | exact dIdxT0 | exact dIdxT1 | exact dIdxL0 | exact dIdxL1 | exact dEq_int | exact dLt_int | exact dLe_int | apply dne_ok | apply dnotin_ok | (show _ = _; assumption) | exact rfl | (show _ = _; apply_assumption))))
      · unfold arePipes
        dsimp only
        rw [hp, Bool.true_and]
    · have hp : (decide (1 ≤ xs.length) && decide (xs.length ≤ 6) && xs.all isPair) = false := by simpa using hp
      rw [hp, if_pos (by simp)]
      unfold arePipes
      dsimp only
      rw [hp]
      rfl
  | _ => rfl
theorem mem_enumD : ∀ {xs : List D} {n : Nat} {p : D}, p ∈ enumD n xs → ∃ i x, p = .tuple [.int ((n + i : Nat) : Int), x] ∧ xs[i]? = some x
  | [], _, _, h => by simp [enumD] at h
  | x :: xs, n, p, h => by
    rw [enumD] at h
    rcases List.mem_cons.mp h with rfl | h
    · exact ⟨0, x, rfl, rfl⟩
    · obtain ⟨i, y, h1, h2⟩ := mem_enumD h
      refine ⟨i + 1, y, ?_, by simpa using h2⟩
      rw [h1]
      congr 3
      omega
theorem cut_take (xs : List D) (n : Nat) : cutD xs none (some (n : Int)) = xs.take n := by
  unfold cutD
  rw [HT.sIx_nat, HT.sIx_none, List.drop_zero, Nat.sub_zero]
  by_cases h : n ≤ xs.length
  · rw [Nat.min_eq_left h]
  · rw [Nat.min_eq_right (by omega), List.take_length, List.take_of_length_le (by omega)]
def rowP (ns xs : List D) : D → Bool
  | .tuple [.int i, x] => isName x && (inD x ns && !inD x (xs.take i.toNat))
  | _ => false
theorem all_rowP (ns xs : List D) : ∀ (l : List D) (n : Nat), (enumD n l).all (rowP ns xs) = rowGo ns xs n l
  | [], _ => rfl
  | x :: l, n => by
    rw [enumD, List.all_cons, all_rowP ns xs l (n + 1), rowGo]
    rfl
theorem fine_of_name {x : D} (h : isName x = true) : fine x = true := by
  cases x <;> first
    | rfl
    | (cases h; done)
theorem plain_take : ∀ {xs : List D} (n : Nat), PyData.plainAll xs = true → PyData.plainAll (xs.take n) = true
  | [], n, _ => by rw [List.take_nil]; rfl
  | x :: xs, 0, _ => rfl
  | x :: xs, n + 1, h => by
    rw [List.take_succ_cons]
    simp only [PyData.plainAll, Bool.and_eq_true] at h ⊢
    exact ⟨h.1, plain_take n h.2⟩
theorem depth_take : ∀ {xs : List D} (n : Nat), PyData.depthAll (xs.take n) ≤ PyData.depthAll xs
  | [], n => by rw [List.take_nil]; exact Nat.le_refl _
  | x :: xs, 0 => Nat.zero_le _
  | x :: xs, n + 1 => by
    rw [List.take_succ_cons]
    simp only [PyData.depthAll]
    have := depth_take (xs := xs) n
    omega
theorem fine_take {xs : List D} (n : Nat) (h : fine (.tuple xs) = true) : fine (.tuple (xs.take n)) = true := by
  unfold fine at h ⊢
  simp only [Bool.and_eq_true, decide_eq_true_eq, PyData.plain, PyData.depth] at h ⊢
  have := depth_take (xs := xs) n
  obtain ⟨q1, q2⟩ := h
  refine ⟨plain_take n q1, ?_⟩
  have q3 := of_decide_eq_true q2
  exact decide_eq_true (by omega)
theorem dIn_L {x : D} {ns : List D} (hx : fine x = true) (hn : fine (.list ns) = true) : dIn x (.list ns) = .ok (inD x ns) := by rw [dIn, hx, hn]; rfl
theorem dIn_T {x : D} {ns : List D} (hx : fine x = true) (hn : fine (.tuple ns) = true) : dIn x (.tuple ns) = .ok (inD x ns) := by rw [dIn, hx, hn]; rfl
theorem is_row_ok {g : List D → R D} (j : Nat) (hg : ∀ d, sz d = true → g [d] = .ok (.bool (isName d))) (ns : List D) (hn : fine (.list ns) = true) (d : D) (h : sz d = true) (hf : fine d = true) : runF 2 4 (B_is_row j g) [.list ns, d] = .ok (.bool (isRow ns d)) := by
  rw [run1 (np := 2) rfl]
  unfold B_is_row
  cases d with
  | tuple xs =>
    obtain ⟨hl, hs⟩ := sz_tuple h
    have hif : evE (.or (.not (.isi (.slot 1) .tuple)) (.not (.chn (.cst (.int 1)) (.blt .len (.cons (.slot 1) .nil)) (.glo "MOST_ROW" (.int 4))))) [.val (.list ns), .val (.tuple xs), .un, .un] = .ok (.bool (!(decide (1 ≤ xs.length) && decide (xs.length ≤ 4)))) := by
      apply ok_of
      · (repeat' (first | (with_reducible apply ev_slot; exact rfl) | with_reducible exact ev_cst | with_reducible exact ev_glo | (with_reducible apply ev_borv; exact rfl) | (with_reducible apply ev_boro; exact rfl) | with_reducible exact evs_nil | with_reducible exact evo_non | with_reducible apply evo_som | with_reducible apply evs_cons | with_reducible apply ev_and | with_reducible apply ev_or | with_reducible apply ev_not | with_reducible apply ev_chn | with_reducible apply ev_isi | with_reducible apply ev_isk | with_reducible apply ev_cmp | with_reducible apply ev_idx' | with_reducible apply ev_bin' | with_reducible apply ev_sli' | with_reducible apply ev_rev' | with_reducible apply ev_neg | with_reducible apply ev_call' | with_reducible apply ev_all | with_reducible apply ev_blt' | with_reducible apply ev_tup | with_reducible apply ev_lst | with_reducible apply ev_lc | with_reducible apply ev_lcf | with_reducible apply it_dat | with_reducible apply it_zip | with_reducible apply it_enu | (show ∃ env', _ = R.ok env' ∧ _; refine ⟨_, rfl, ?_⟩) | (show ∃ env', _ = R.ok env' ∧ _ ∧ _; refine ⟨_, rfl, ?_, ?_⟩) | (show ∀ _, (_ : Prop); intro _) | (show sz _ = true; apply szAll_mem <;> assumption) | (show (_ : Nat) ≤ _; omega) | (show (_ : Nat) ≤ _; simp only [List.length_map]; omega) | (show _ ∈ _; assumption) | (first | exact dIdxT0 | exact dIdxT1 | exact dIdxL0 | exact dIdxL1 | exact dEq_int | exact dLt_int | exact dLe_int | apply dne_ok | apply dnotin_ok | (show _ = _; assumption) | exact rfl | (show _ = _; apply_assumption))))
      · have e2 : ((1 : Int) ≤ (xs.length : Int)) ↔ 1 ≤ xs.length := by omega
        have e3 : ((xs.length : Int) ≤ 4) ↔ xs.length ≤ 4 := by omega
        simp only [isTy, PyData.isTuple, Bool.not_true, Bool.false_or, e2, e3]
    refine (ifret_out hif rfl).trans ?_
    by_cases hp : (decide (1 ≤ xs.length) && decide (xs.length ≤ 4)) = true
    · rw [hp, if_neg (by simp), ret1]
      have hen : (enumD 0 xs).length ≤ 16777216 := by
        have : ∀ (l : List D) (n : Nat), (enumD n l).length = l.length := fun l => by
          induction l with
          | nil => intro n; rfl
          | cons x l ih => intro n; rw [enumD, List.length_cons, ih, List.length_cons]
        rw [this]; omega
      apply ok_of
      · (repeat' (first | (with_reducible apply ev_slot; exact rfl) | with_reducible exact ev_cst | with_reducible exact ev_glo | (with_reducible apply ev_borv; exact rfl) | (with_reducible apply ev_boro; exact rfl) | with_reducible exact evs_nil | with_reducible exact evo_non | with_reducible apply evo_som | with_reducible apply evs_cons | with_reducible apply ev_and | with_reducible apply ev_or | with_reducible apply ev_not | with_reducible apply ev_chn | with_reducible apply ev_isi | with_reducible apply ev_isk | with_reducible apply ev_cmp | with_reducible apply ev_idx' | with_reducible apply ev_bin' | with_reducible apply ev_sli' | with_reducible apply ev_rev' | with_reducible apply ev_neg | with_reducible apply ev_call' | with_reducible apply ev_all | with_reducible apply ev_blt' | with_reducible apply ev_tup | with_reducible apply ev_lst | with_reducible apply ev_lc | with_reducible apply ev_lcf | with_reducible apply it_dat | with_reducible apply it_zip | with_reducible apply it_enu | (show ∃ env', _ = R.ok env' ∧ _; refine ⟨_, rfl, ?_⟩) | (show ∃ env', _ = R.ok env' ∧ _ ∧ _; refine ⟨_, rfl, ?_, ?_⟩) | (show ∀ _, (_ : Prop); intro _) | (show sz _ = true; apply szAll_mem <;> assumption) | (show (_ : Nat) ≤ _; omega) | (show (_ : Nat) ≤ _; simp only [List.length_map]; omega) | (show _ ∈ _; assumption) | (first | exact dIdxT0 | exact dIdxT1 | exact dIdxL0 | exact dIdxL1 | exact dEq_int | exact dLt_int | exact dLe_int | apply dne_ok | apply dnotin_ok | (show _ = _; assumption) | exact rfl | (show _ = _; apply_assumption))))
        rename_i p hp
        have key : ∃ env', asg (.t2 (.nm 2) (.nm 3)) p (wipeE [.val (.list ns), .val (.tuple xs), .un, .un] [2, 3]) = .ok env' ∧
            evE (.and (.call j g (.cons (.slot 3) .nil)) (.and (.cmp .isin (.slot 3) (.slot 0)) (.cmp .notin (.slot 3) (.sli (.slot 1) .non (.som (.slot 2)))))) env' = .ok (.bool (rowP ns xs p)) := by
          obtain ⟨i, x, rfl, hx⟩ := mem_enumD hp
          have hxm := List.mem_of_getElem? hx
          refine ⟨_, rfl, ?_⟩
          refine ev_and (ev_call' (evs1 (ev_slot rfl)) (hg x (szAll_mem hs hxm))) fun hnm => ev_and (ev_cmp (ev_slot rfl) (ev_slot rfl) (dIn_L (fine_of_name hnm) hn)) fun _ => ?_
          refine ev_cmp (y := .tuple (xs.take (0 + i))) (ev_slot rfl) ?_ (dnotin_ok (dIn_T (fine_of_name hnm) (fine_take _ hf)))
          refine ev_sli' (ev_slot rfl) evo_non (evo_som (ev_slot rfl)) ?_
          rw [dSli, cut_take]
        exact key
      · rw [all_rowP]
        unfold isRow
        dsimp only
        rw [hp, Bool.true_and]
    · have hp : (decide (1 ≤ xs.length) && decide (xs.length ≤ 4)) = false := by simpa using hp
      rw [hp, if_pos (by simp)]
      unfold isRow
      dsimp only
      rw [hp]
      rfl
  | _ => rfl
/-! ### is_net -/
theorem net_if {g1 : List D → R D} {j1 : Nat} (d : D) (h : sz d = true) (h1 : ∀ d, sz d = true → g1 [d] = .ok (.bool (arePipes d))) :
    ∃ p, evE (.or (.not (.isi (.slot 0) .tuple)) (.or (.cmp .ne (.blt .len (.cons (.slot 0) .nil)) (.cst (.int 2))) (.or (.not (.call j1 g1 (.cons (.idx (.slot 0) (.cst (.int 0))) .nil))) (.not (.isi (.idx (.slot 0) (.cst (.int 1))) .tuple))))) [.val d, .un, .un, .un, .un, .un] = .ok (.bool p) ∧
      (p = true → isNet d = false) ∧ (p = false → ∃ ps ws, d = .tuple [.tuple ps, .tuple ws] ∧ arePipes (.tuple ps) = true) := by
  cases d with
  | tuple xs =>
    obtain ⟨hl, hs⟩ := sz_tuple h
    match xs, hs, hl with
    | [x, y], hs, hl =>
      have hx : sz x = true := szAll_mem hs List.mem_cons_self
      refine ⟨!arePipes x || !isTy .tuple y, ?_, fun hp => ?_, fun hp => ?_⟩
      · apply ok_of
        · (repeat' (first | (with_reducible apply ev_slot; exact rfl) | with_reducible exact ev_cst | with_reducible exact ev_glo | (with_reducible apply ev_borv; exact rfl) | (with_reducible apply ev_boro; exact rfl) | with_reducible exact evs_nil | with_reducible exact evo_non | with_reducible apply evo_som | with_reducible apply evs_cons | with_reducible apply ev_and | with_reducible apply ev_or | with_reducible apply ev_not | with_reducible apply ev_chn | with_reducible apply ev_isi | with_reducible apply ev_isk | with_reducible apply ev_cmp | with_reducible apply ev_idx' | with_reducible apply ev_bin' | with_reducible apply ev_sli' | with_reducible apply ev_rev' | with_reducible apply ev_neg | with_reducible apply ev_call' | with_reducible apply ev_all | with_reducible apply ev_blt' | with_reducible apply ev_tup | with_reducible apply ev_lst | with_reducible apply ev_lc | with_reducible apply ev_lcf | with_reducible apply it_dat | with_reducible apply it_zip | with_reducible apply it_enu | (show ∃ env', _ = R.ok env' ∧ _; refine ⟨_, rfl, ?_⟩) | (show ∃ env', _ = R.ok env' ∧ _ ∧ _; refine ⟨_, rfl, ?_, ?_⟩) | (show ∀ _, (_ : Prop); intro _) | (show sz _ = true; apply szAll_mem <;> assumption) | (show (_ : Nat) ≤ _; omega) | (show (_ : Nat) ≤ _; simp only [List.length_map]; omega) | (show _ ∈ _; assumption) | (first | exact dIdxT0 | exact dIdxT1 | exact dIdxL0 | exact dIdxL1 | exact dEq_int | exact dLt_int | exact dLe_int | apply dne_ok | apply dnotin_ok | (show _ = _; assumption) | exact rfl | (show _ = _; apply_assumption))))
        · simp [isTy, PyData.isTuple]
      · unfold isNet
        split
        · rename_i ps ws he
          obtain ⟨e1, e2⟩ : x = .tuple ps ∧ y = .tuple ws := by
            have := PyData.tuple.inj he
            exact ⟨(List.cons.inj this).1, (List.cons.inj (List.cons.inj this).2).1⟩
          subst e1 e2
          have : arePipes (.tuple ps) = false := by
            simpa [isTy, PyData.isTuple] using hp
          rw [this]
          rfl
        · rfl
      · have h1 : arePipes x = true ∧ isTy .tuple y = true := by simpa using hp
        have e1 : ∃ ps, x = .tuple ps := by
          cases x with
          | tuple ps => exact ⟨ps, rfl⟩
          | _ => exact nomatch h1.1
        have e2 : ∃ ws, y = .tuple ws := by
          cases y with
          | tuple ps => exact ⟨ps, rfl⟩
          | _ => exact nomatch h1.2
        obtain ⟨ps, rfl⟩ := e1
        obtain ⟨ws, rfl⟩ := e2
        exact ⟨ps, ws, rfl, h1.1⟩
    | [], hs, hl => exact ⟨true, rfl, fun _ => rfl, fun z => nomatch z⟩
    | [x], hs, hl =>
      refine ⟨true, rfl, fun _ => ?_, fun z => nomatch z⟩
      unfold isNet
      split
      · rename_i he
        simp at he
      · rfl
    | x :: y :: z :: r, hs, hl =>
      refine ⟨true, ?_, fun _ => ?_, fun z => nomatch z⟩
      · refine ok_of (ev_or (p := false) (q := true) (ok_of (ev_not (ev_isi (ev_slot rfl) .tuple)) rfl) fun _ => ev_or (p := true) (q := true) (ok_of (ev_cmp (ev_lenT (ev_slot rfl)) ev_cst (dne_ok dEq_int)) ?_) fun z => nomatch z) rfl
        have : ¬ ((((x :: y :: z :: r : List D).length : Nat) : Int) = 2) := by simp; omega
        rw [decide_eq_false this]
        rfl
      · unfold isNet
        split
        · rename_i he
          simp at he
        · rfl
  | _ => exact ⟨true, rfl, fun _ => rfl, fun z => nomatch z⟩
theorem pipes_pairs {ps : List D} (h : arePipes (.tuple ps) = true) : ps.all isPair = true ∧ ps.length ≤ 6 ∧ 1 ≤ ps.length := by
  simp only [arePipes, Bool.and_eq_true, decide_eq_true_eq] at h
  exact ⟨h.1.2, h.1.1.2, h.1.1.1⟩
theorem fine_names {xs : List D} (h : names xs = true) : fine (.list xs) = true := by
  have : PyData.plainAll xs = true ∧ PyData.depthAll xs ≤ 1 := by
    induction xs with
    | nil => exact ⟨rfl, Nat.zero_le _⟩
    | cons x xs ih =>
      unfold names at h
      rw [List.all_cons, Bool.and_eq_true] at h
      obtain ⟨i1, i2⟩ := ih h.2
      have hx := h.1
      cases x <;> first
        | (cases hx; done)
        | skip
      simp only [PyData.plainAll, PyData.depthAll, PyData.plain, PyData.depth, Bool.true_and]
      exact ⟨i1, by omega⟩
  unfold fine
  rw [Bool.and_eq_true]
  refine ⟨this.1, decide_eq_true ?_⟩
  have := this.2
  simp only [PyData.depth]
  omega
theorem fine_mem {xs : List D} {x : D} (h : fine (.tuple xs) = true) (hx : x ∈ xs) : fine x = true := by
  unfold fine at h ⊢
  simp only [Bool.and_eq_true, PyData.plain, PyData.depth] at h ⊢
  obtain ⟨q1, q3⟩ := h
  have q2 := of_decide_eq_true q3
  clear q3
  have : x.plain = true ∧ x.depth ≤ PyData.depthAll xs := by
    clear q2
    induction xs with
    | nil => cases hx
    | cons y ys ih =>
      simp only [PyData.plainAll, PyData.depthAll, Bool.and_eq_true] at q1 ⊢
      rcases List.mem_cons.mp hx with rfl | hx
      · exact ⟨q1.1, by omega⟩
      · obtain ⟨i1, i2⟩ := ih hx q1.2
        exact ⟨i1, by omega⟩
  exact ⟨this.1, decide_eq_true (by omega)⟩
theorem pair_snd {d : D} (h : isPair d = true) (hs : sz d = true) (hf : fine d = true) : sz (sndD d) = true ∧ fine (sndD d) = true := by
  obtain ⟨x, y, rfl, _⟩ := pair_of h
  have hm : y ∈ [x, y] := List.mem_cons_of_mem _ List.mem_cons_self
  exact ⟨szAll_mem (sz_tuple hs).2 hm, fine_mem hf hm⟩
theorem is_net_ok {g1 g2 g3 g4 : List D → R D} (j1 j2 j3 j4 : Nat) (h1 : ∀ d, sz d = true → g1 [d] = .ok (.bool (arePipes d)))
    (h2 : ∀ ns : List D, fine (.list ns) = true → ∀ d, sz d = true → fine d = true → g2 [.list ns, d] = .ok (.bool (isRow ns d)))
    (h3 : ∀ d, sz d = true → g3 [d] = .ok (.bool (isPair d))) (h4 : ∀ xs : List D, xs.length ≤ 1000000 → names xs = true → g4 [.list xs] = .ok (.bool (risD xs)))
    (d : D) (h : sz d = true) (hf : fine d = true) : runF 1 6 (B_is_net j1 g1 j2 g2 j3 g3 j4 g4) [d] = .ok (.bool (isNet d)) := by
  rw [run1 (np := 1) rfl]
  unfold B_is_net
  obtain ⟨p, e1, e2, e3⟩ := net_if (j1 := j1) d h h1
  refine (ifret_out e1 rfl).trans ?_
  cases p with
  | true => rw [if_pos rfl, e2 rfl]
  | false =>
    rw [if_neg (by simp)]
    obtain ⟨ps, ws, rfl, hps⟩ := e3 rfl
    obtain ⟨q1, q2, q3⟩ := pipes_pairs hps
    have hsw : sz (.tuple ws) = true := szAll_mem (sz_tuple h).2 (by simp)
    obtain ⟨hwl, hws⟩ := sz_tuple hsw
    have hns := names_fst q1
    have hnf := fine_names hns
    have i0 : ∀ x ∈ ps, dIdx x (.int 0) = .ok (fstD x) := fun x hx => (pair_idx (List.all_eq_true.mp q1 x hx)).1
    rw [ex_asnT (env' := [.val (.tuple [.tuple ps, .tuple ws]), .val (.tuple ps), .val (.tuple ws), .un, .un, .un]) (by (first | (with_reducible apply ev_slot; exact rfl) | with_reducible exact ev_cst | with_reducible exact ev_glo | (with_reducible apply ev_borv; exact rfl) | (with_reducible apply ev_boro; exact rfl) | with_reducible exact evs_nil | with_reducible exact evo_non | with_reducible apply evo_som | with_reducible apply evs_cons | with_reducible apply ev_and | with_reducible apply ev_or | with_reducible apply ev_not | with_reducible apply ev_chn | with_reducible apply ev_isi | with_reducible apply ev_isk | with_reducible apply ev_cmp | with_reducible apply ev_idx' | with_reducible apply ev_bin' | with_reducible apply ev_sli' | with_reducible apply ev_rev' | with_reducible apply ev_neg | with_reducible apply ev_call' | with_reducible apply ev_all | with_reducible apply ev_blt' | with_reducible apply ev_tup | with_reducible apply ev_lst | with_reducible apply ev_lc | with_reducible apply ev_lcf | with_reducible apply it_dat | with_reducible apply it_zip | with_reducible apply it_enu | (show ∃ env', _ = R.ok env' ∧ _; refine ⟨_, rfl, ?_⟩) | (show ∃ env', _ = R.ok env' ∧ _ ∧ _; refine ⟨_, rfl, ?_, ?_⟩) | (show ∀ _, (_ : Prop); intro _) | (show sz _ = true; apply szAll_mem <;> assumption) | (show (_ : Nat) ≤ _; omega) | (show (_ : Nat) ≤ _; simp only [List.length_map]; omega) | (show _ ∈ _; assumption) | (first | exact dIdxT0 | exact dIdxT1 | exact dIdxL0 | exact dIdxL1 | exact dEq_int | exact dLt_int | exact dLe_int | apply dne_ok | apply dnotin_ok | (show _ = _; assumption) | exact rfl | (show _ = _; apply_assumption)))) rfl]
    rw [ex_asn (x := .list (ps.map fstD)) (by apply ok_of; · (repeat' (first | (with_reducible apply ev_slot; exact rfl) | with_reducible exact ev_cst | with_reducible exact ev_glo | (with_reducible apply ev_borv; exact rfl) | (with_reducible apply ev_boro; exact rfl) | with_reducible exact evs_nil | with_reducible exact evo_non | with_reducible apply evo_som | with_reducible apply evs_cons | with_reducible apply ev_and | with_reducible apply ev_or | with_reducible apply ev_not | with_reducible apply ev_chn | with_reducible apply ev_isi | with_reducible apply ev_isk | with_reducible apply ev_cmp | with_reducible apply ev_idx' | with_reducible apply ev_bin' | with_reducible apply ev_sli' | with_reducible apply ev_rev' | with_reducible apply ev_neg | with_reducible apply ev_call' | with_reducible apply ev_all | with_reducible apply ev_blt' | with_reducible apply ev_tup | with_reducible apply ev_lst | with_reducible apply ev_lc | with_reducible apply ev_lcf | with_reducible apply it_dat | with_reducible apply it_zip | with_reducible apply it_enu | (show ∃ env', _ = R.ok env' ∧ _; refine ⟨_, rfl, ?_⟩) | (show ∃ env', _ = R.ok env' ∧ _ ∧ _; refine ⟨_, rfl, ?_, ?_⟩) | (show ∀ _, (_ : Prop); intro _) | (show sz _ = true; apply szAll_mem <;> assumption) | (show (_ : Nat) ≤ _; omega) | (show (_ : Nat) ≤ _; simp only [List.length_map]; omega) | (show _ ∈ _; assumption) | (first | exact dIdxT0 | exact dIdxT1 | exact dIdxL0 | exact dIdxL1 | exact dEq_int | exact dLt_int | exact dLe_int | apply dne_ok | apply dnotin_ok | (show _ = _; assumption) | exact rfl | (show _ = _; apply_assumption))))
                                              · rfl) (by simp)]
    have hw : evE (.or (.not (.chn (.cst (.int 1)) (.blt .len (.cons (.slot 2) .nil)) (.glo "MOST_WAYS" (.int 8)))) (.not (.blt .all (.cons (.lc [5] (.nm 5) (.dat (.slot 2)) .nil (.and (.call j3 g3 (.cons (.slot 5) .nil)) (.call j2 g2 (.cons (.slot 3) (.cons (.idx (.slot 5) (.cst (.int 1))) .nil))))) .nil))))
        [.val (.tuple [.tuple ps, .tuple ws]), .val (.tuple ps), .val (.tuple ws), .val (.list (ps.map fstD)), .un, .un] =
        .ok (.bool (!(decide (1 ≤ ws.length) && decide (ws.length ≤ 8) && ws.all (fun w => isPair w && isRow (ps.map fstD) (sndD w))))) := by
      have hfw : fine (.tuple ws) = true := fine_mem hf (by simp)
      have key : ∀ w ∈ ws, evE (.and (.call j3 g3 (.cons (.slot 5) .nil)) (.call j2 g2 (.cons (.slot 3) (.cons (.idx (.slot 5) (.cst (.int 1))) .nil))))
            [.val (.tuple [.tuple ps, .tuple ws]), .val (.tuple ps), .val (.tuple ws), .val (.list (ps.map fstD)), .un, .val w] = .ok (.bool (isPair w && isRow (ps.map fstD) (sndD w))) := fun w hwm => by
          have k1 := szAll_mem hws hwm
          refine ev_and (ev_call' (evs1 (ev_slot rfl)) (h3 w k1)) fun hp => ?_
          obtain ⟨k2, k3⟩ := pair_snd hp k1 (fine_mem hfw hwm)
          have k4 := (pair_idx hp).2.1
          have k5 := h2 _ hnf _ k2 k3
          (repeat' (first | (with_reducible apply ev_slot; exact rfl) | with_reducible exact ev_cst | with_reducible exact ev_glo | (with_reducible apply ev_borv; exact rfl) | (with_reducible apply ev_boro; exact rfl) | with_reducible exact evs_nil | with_reducible exact evo_non | with_reducible apply evo_som | with_reducible apply evs_cons | with_reducible apply ev_and | with_reducible apply ev_or | with_reducible apply ev_not | with_reducible apply ev_chn | with_reducible apply ev_isi | with_reducible apply ev_isk | with_reducible apply ev_cmp | with_reducible apply ev_idx' | with_reducible apply ev_bin' | with_reducible apply ev_sli' | with_reducible apply ev_rev' | with_reducible apply ev_neg | with_reducible apply ev_call' | with_reducible apply ev_all | with_reducible apply ev_blt' | with_reducible apply ev_tup | with_reducible apply ev_lst | with_reducible apply ev_lc | with_reducible apply ev_lcf | with_reducible apply it_dat | with_reducible apply it_zip | with_reducible apply it_enu | (show ∃ env', _ = R.ok env' ∧ _; refine ⟨_, rfl, ?_⟩) | (show ∃ env', _ = R.ok env' ∧ _ ∧ _; refine ⟨_, rfl, ?_, ?_⟩) | (show ∀ _, (_ : Prop); intro _) | (show sz _ = true; apply szAll_mem <;> assumption) | (show (_ : Nat) ≤ _; omega) | (show (_ : Nat) ≤ _; simp only [List.length_map]; omega) | (show _ ∈ _; assumption) | (first | exact dIdxT0 | exact dIdxT1 | exact dIdxL0 | exact dIdxL1 | exact dEq_int | exact dLt_int | exact dLe_int | apply dne_ok | apply dnotin_ok | (show _ = _; assumption) | exact rfl | (show _ = _; apply_assumption))))
      apply ok_of
      · repeat' first
          | (apply key; assumption)
          | (first | (with_reducible apply ev_slot; exact rfl) | with_reducible exact ev_cst | with_reducible exact ev_glo | (with_reducible apply ev_borv; exact rfl) | (with_reducible apply ev_boro; exact rfl) | with_reducible exact evs_nil | with_reducible exact evo_non | with_reducible apply evo_som | with_reducible apply evs_cons | with_reducible apply ev_and | with_reducible apply ev_or | with_reducible apply ev_not | with_reducible apply ev_chn | with_reducible apply ev_isi | with_reducible apply ev_isk | with_reducible apply ev_cmp | with_reducible apply ev_idx' | with_reducible apply ev_bin' | with_reducible apply ev_sli' | with_reducible apply ev_rev' | with_reducible apply ev_neg | with_reducible apply ev_call' | with_reducible apply ev_all | with_reducible apply ev_blt' | with_reducible apply ev_tup | with_reducible apply ev_lst | with_reducible apply ev_lc | with_reducible apply ev_lcf | with_reducible apply it_dat | with_reducible apply it_zip | with_reducible apply it_enu | (show ∃ env', _ = R.ok env' ∧ _; refine ⟨_, rfl, ?_⟩) | (show ∃ env', _ = R.ok env' ∧ _ ∧ _; refine ⟨_, rfl, ?_, ?_⟩) | (show ∀ _, (_ : Prop); intro _) | (show sz _ = true; apply szAll_mem <;> assumption) | (show (_ : Nat) ≤ _; omega) | (show (_ : Nat) ≤ _; simp only [List.length_map]; omega) | (show _ ∈ _; assumption) | (first | exact dIdxT0 | exact dIdxT1 | exact dIdxL0 | exact dIdxL1 | exact dEq_int | exact dLt_int | exact dLe_int | apply dne_ok | apply dnotin_ok | (show _ = _; assumption) | exact rfl | (show _ = _; apply_assumption)))
      · have a2 : ((1 : Int) ≤ (ws.length : Int)) ↔ 1 ≤ ws.length := by omega
        have a3 : ((ws.length : Int) ≤ 8) ↔ ws.length ≤ 8 := by omega
        simp only [a2, a3, Bool.not_and]
    refine (ifret_out hw rfl).trans ?_
    by_cases hp : (decide (1 ≤ ws.length) && decide (ws.length ≤ 8) && ws.all (fun w => isPair w && isRow (ps.map fstD) (sndD w))) = true
    · rw [hp, if_neg (by simp), ret1]
      have hq := hp
      simp only [Bool.and_eq_true] at hq
      have hwp : ws.all isPair = true := List.all_eq_true.mpr fun w hw => by
        have := List.all_eq_true.mp hq.2 w hw
        simp only [Bool.and_eq_true] at this
        exact this.1
      have hn := names_fst hwp
      have hn2 : (ws.map fstD).length ≤ 1000000 := by rw [List.length_map]; exact hwl
      clear i0
      have i0 : ∀ x ∈ ws, dIdx x (.int 0) = .ok (fstD x) := fun x hx => (pair_idx (List.all_eq_true.mp hwp x hx)).1
      apply ok_of
      · (repeat' (first | (with_reducible apply ev_slot; exact rfl) | with_reducible exact ev_cst | with_reducible exact ev_glo | (with_reducible apply ev_borv; exact rfl) | (with_reducible apply ev_boro; exact rfl) | with_reducible exact evs_nil | with_reducible exact evo_non | with_reducible apply evo_som | with_reducible apply evs_cons | with_reducible apply ev_and | with_reducible apply ev_or | with_reducible apply ev_not | with_reducible apply ev_chn | with_reducible apply ev_isi | with_reducible apply ev_isk | with_reducible apply ev_cmp | with_reducible apply ev_idx' | with_reducible apply ev_bin' | with_reducible apply ev_sli' | with_reducible apply ev_rev' | with_reducible apply ev_neg | with_reducible apply ev_call' | with_reducible apply ev_all | with_reducible apply ev_blt' | with_reducible apply ev_tup | with_reducible apply ev_lst | with_reducible apply ev_lc | with_reducible apply ev_lcf | with_reducible apply it_dat | with_reducible apply it_zip | with_reducible apply it_enu | (show ∃ env', _ = R.ok env' ∧ _; refine ⟨_, rfl, ?_⟩) | (show ∃ env', _ = R.ok env' ∧ _ ∧ _; refine ⟨_, rfl, ?_, ?_⟩) | (show ∀ _, (_ : Prop); intro _) | (show sz _ = true; apply szAll_mem <;> assumption) | (show (_ : Nat) ≤ _; omega) | (show (_ : Nat) ≤ _; simp only [List.length_map]; omega) | (show _ ∈ _; assumption) | (first | exact dIdxT0 | exact dIdxT1 | exact dIdxL0 | exact dIdxL1 | exact dEq_int | exact dLt_int | exact dLe_int | apply dne_ok | apply dnotin_ok | (show _ = _; assumption) | exact rfl | (show _ = _; apply_assumption))))
      · rw [isNet, hps, hp]; rfl
    · have hp : (decide (1 ≤ ws.length) && decide (ws.length ≤ 8) && ws.all (fun w => isPair w && isRow (ps.map fstD) (sndD w))) = false := by simpa using hp
      rw [hp, if_pos (by simp), isNet, hps, hp]
      rfl
end Fp

set_option Elab.async false
set_option linter.all false
set_option maxRecDepth 100000
set_option maxHeartbeats 1000000
/-! States. -/
namespace Fp
open PySem
theorem lcGo2_map {F : D → R (List D)} {g : D → List D} : ∀ {xs : List D}, (∀ x ∈ xs, F x = .ok (g x)) → lcGo2 F xs = .ok (xs.flatMap g)
  | [], _ => rfl
  | x :: xs, h => by
    have ih := lcGo2_map (F := F) (g := g) (xs := xs) fun y hy => h y (List.mem_cons_of_mem _ hy)
    rw [lcGo2, h x List.mem_cons_self]
    dsimp only
    rw [ih, List.flatMap_cons]
/-- [e for tg in it for tg2 in it2] -/
theorem ev_lc2 {own : List Nat} {tg tg2 : Tg} {it it2 : It} {e : E} {env : Env} {xs : List D} {f : D → List D} {g : D → D → D} (hi : evIt it env = .ok xs) (hl : (xs.flatMap f).length ≤ 16777216)
    (h : ∀ x ∈ xs, ∃ env', asg tg x (wipeE env own) = .ok env' ∧ evIt it2 env' = .ok (f x) ∧ ∀ z ∈ f x, ∃ env2, asg tg2 z (wipeE env' (tgv tg2)) = .ok env2 ∧ evE e env2 = .ok (g x z)) :
    evE (.lc2 own tg it .nil tg2 it2 .nil e) env = .ok (.list (xs.flatMap fun x => (f x).map (g x))) := by
  rw [evE, hi, R.bind_ok, lcGo2_map (g := fun x => (f x).map (g x)), R.bind_ok, if_pos]
  · refine Nat.le_trans (Nat.le_of_eq ?_) hl
    rw [List.length_flatMap, List.length_flatMap]
    simp
  · intro x hx
    obtain ⟨env', h1, h2, h3⟩ := h x hx
    rw [h1, R.bind_ok, evCs, R.bind_ok, if_pos rfl, h2, R.bind_ok]
    rw [lcGo_map (g := fun z => some (g x z)), filterMap_some]
    intro z hz
    obtain ⟨env2, k1, k2⟩ := h3 z hz
    rw [k1, R.bind_ok, evCs, R.bind_ok, if_pos rfl, k2, R.bind_ok]
theorem boolsD_app {xs ys : List D} {as bs : List Bool} (h : boolsD xs = .ok as) (k : boolsD ys = .ok bs) : boolsD (xs ++ ys) = .ok (as ++ bs) := by
  induction xs generalizing as with
  | nil => cases h; exact k
  | cons x xs ih =>
    cases x with
    | bool b =>
      rw [boolsD] at h
      cases e : boolsD xs with
      | ok cs =>
        rw [e] at h
        cases h
        rw [List.cons_append, boolsD, ih e]
        rfl
      | ex c => rw [e] at h; cases h
      | no => rw [e] at h; cases h
    | _ => cases h
theorem boolsD_flat {f : D → List D} {p : D → D → Bool} : ∀ xs : List D, boolsD (xs.flatMap fun x => (f x).map fun z => .bool (p x z)) = .ok (xs.flatMap fun x => (f x).map (p x))
  | [] => rfl
  | x :: xs => by
    rw [List.flatMap_cons, List.flatMap_cons]
    exact boolsD_app (boolsD_map (p x) (f x)) (boolsD_flat xs)
theorem ev_all2 {own : List Nat} {tg tg2 : Tg} {it it2 : It} {e : E} {env : Env} {xs : List D} {f : D → List D} {p : D → D → Bool} (hi : evIt it env = .ok xs) (hl : (xs.flatMap f).length ≤ 16777216)
    (h : ∀ x ∈ xs, ∃ env', asg tg x (wipeE env own) = .ok env' ∧ evIt it2 env' = .ok (f x) ∧ ∀ z ∈ f x, ∃ env2, asg tg2 z (wipeE env' (tgv tg2)) = .ok env2 ∧ evE e env2 = .ok (.bool (p x z))) :
    evE (.blt .all (.cons (.lc2 own tg it .nil tg2 it2 .nil e) .nil)) env = .ok (.bool (xs.all fun x => (f x).all (p x))) := by
  rw [evE, evEs, ev_lc2 (g := fun x z => .bool (p x z)) hi hl h, R.bind_ok, evEs, R.bind_ok, R.bind_ok, dBlt, boolsD_flat, R.bind_ok]
  have key : ∀ ys : List D, (ys.flatMap fun x => (f x).map (p x)).all id = ys.all fun x => (f x).all (p x) := fun ys => by
    induction ys with
    | nil => rfl
    | cons x ys ih => rw [List.flatMap_cons, List.all_append, ih, List.all_cons, List.all_map]; rfl
  rw [key]
def lenD : D → Nat
  | .tuple xs => xs.length
  | _ => 0
def itD : D → List D
  | .tuple xs => xs
  | _ => []
def intD : D → Int
  | .int k => k
  | _ => 0
def lensOk (p : D) : Bool := decide ((lenD (fstD p) : Int) = intD (sndD (sndD p)))
def stOf (ps : List D) : D → Bool
  | .tuple rows => decide (rows.length = ps.length) && rows.all (isTy .tuple) && (zipD rows ps).all lensOk && rows.all fun r => (itD r).all isName
  | _ => false
theorem whole_int {d : D} {i j : Int} (h : isWhole d i j = true) : ∃ k, d = .int k ∧ i ≤ k ∧ k ≤ j := by
  cases d with
  | int k =>
    simp [isWhole, PyData.isInt, PyData.isBool] at h
    exact ⟨k, rfl, h.1, h.2⟩
  | _ => simp [isWhole, PyData.isInt, PyData.isBool] at h
theorem pipe_of {ps : List D} (h : arePipes (.tuple ps) = true) {p : D} (hp : p ∈ ps) : ∃ x k, p = .tuple [x, .int k] ∧ isName x = true ∧ 1 ≤ k ∧ k ≤ 4 := by
  simp only [arePipes, Bool.and_eq_true] at h
  obtain ⟨x, y, rfl, hx⟩ := pair_of (List.all_eq_true.mp h.1.2 p hp)
  obtain ⟨k, rfl, h1, h2⟩ := whole_int (List.all_eq_true.mp h.2.1 _ hp)
  exact ⟨x, k, rfl, hx, h1, h2⟩
theorem look_net_ok {g : List D → R D} (j : Nat) (hg : ∀ d, sz d = true → fine d = true → g [d] = .ok (.bool (isNet d))) (d : D) (h : sz d = true) (hf : fine d = true) :
    runF 1 1 (B_look_net j g) [d] = if isNet d = true then .ok .none else .ex "NoNet" := by
  rw [run1 (np := 1) rfl]
  unfold B_look_net
  rw [ex_ife (p := !isNet d) (by have := hg d h hf; (repeat' (first | (with_reducible apply ev_slot; exact rfl) | with_reducible exact ev_cst | with_reducible exact ev_glo | (with_reducible apply ev_borv; exact rfl) | (with_reducible apply ev_boro; exact rfl) | with_reducible exact evs_nil | with_reducible exact evo_non | with_reducible apply evo_som | with_reducible apply evs_cons | with_reducible apply ev_and | with_reducible apply ev_or | with_reducible apply ev_not | with_reducible apply ev_chn | with_reducible apply ev_isi | with_reducible apply ev_isk | with_reducible apply ev_cmp | with_reducible apply ev_idx' | with_reducible apply ev_bin' | with_reducible apply ev_sli' | with_reducible apply ev_rev' | with_reducible apply ev_neg | with_reducible apply ev_call' | with_reducible apply ev_all | with_reducible apply ev_blt' | with_reducible apply ev_tup | with_reducible apply ev_lst | with_reducible apply ev_lc | with_reducible apply ev_lcf | with_reducible apply it_dat | with_reducible apply it_zip | with_reducible apply it_enu | (show ∃ env', _ = R.ok env' ∧ _; refine ⟨_, rfl, ?_⟩) | (show ∃ env', _ = R.ok env' ∧ _ ∧ _; refine ⟨_, rfl, ?_, ?_⟩) | (show ∀ _, (_ : Prop); intro _) | (show sz _ = true; apply szAll_mem <;> assumption) | (show (_ : Nat) ≤ _; omega) | (show (_ : Nat) ≤ _; simp only [List.length_map]; omega) | (show _ ∈ _; assumption) | (first | exact dIdxT0 | exact dIdxT1 | exact dIdxL0 | exact dIdxL1 | exact dEq_int | exact dLt_int | exact dLe_int | apply dne_ok | apply dnotin_ok | (show _ = _; assumption) | exact rfl | (show _ = _; apply_assumption)))))]
  cases isNet d with
  | true => rw [if_neg (by simp), exSs, if_pos rfl]; rfl
  | false =>
    rw [if_pos (by simp), exSs, exS]
    rfl
theorem tup_of {d : D} (h : isTy .tuple d = true) : ∃ xs, d = .tuple xs := by
  cases d with
  | tuple xs => exact ⟨xs, rfl⟩
  | _ => exact nomatch h
theorem zip_lens : ∀ {rows ps : List D} {p : D}, rows.length = ps.length → (zipD rows ps).all lensOk = true → ∀ r ∈ rows, ∃ p ∈ ps, (lenD r : Int) = intD (sndD p)
  | [], _, _, _, _, r, hr => nomatch hr
  | r :: rows, [], _, hl, _, _, _ => by simp at hl
  | r :: rows, p :: ps, q, hl, h, r', hr => by
    rw [zipD, List.zipWith_cons_cons, List.all_cons, Bool.and_eq_true] at h
    rcases List.mem_cons.mp hr with rfl | hr
    · exact ⟨p, List.mem_cons_self, of_decide_eq_true h.1⟩
    · obtain ⟨p', h1, h2⟩ := zip_lens (p := q) (by simpa using hl) h.2 r' hr
      exact ⟨p', List.mem_cons_of_mem _ h1, h2⟩
theorem flat_len : ∀ {rows : List D}, (∀ r ∈ rows, lenD r ≤ 4) → (rows.flatMap itD).length ≤ 4 * rows.length
  | [], _ => Nat.zero_le _
  | r :: rows, h => by
    rw [List.flatMap_cons, List.length_append, List.length_cons]
    have i1 := flat_len fun r hr => h r (List.mem_cons_of_mem _ hr)
    have i2 := h r List.mem_cons_self
    have i3 : (itD r).length = lenD r := by cases r <;> rfl
    omega
theorem is_state_of_ok {g : List D → R D} (j : Nat) (hg : ∀ d, sz d = true → g [d] = .ok (.bool (isName d))) (ps : List D) (w : D) (hps : arePipes (.tuple ps) = true) (hpl : ps.length ≤ 1000000) (d : D) (h : sz d = true) :
    runF 2 5 (B_is_state_of j g) [.tuple [.tuple ps, w], d] = .ok (.bool (stOf ps d)) := by
  rw [run1 (np := 2) rfl]
  unfold B_is_state_of
  cases d with
  | tuple rows =>
    obtain ⟨hl, hs⟩ := sz_tuple h
    have hif : evE (.or (.not (.isi (.slot 1) .tuple)) (.or (.cmp .ne (.blt .len (.cons (.slot 1) .nil)) (.blt .len (.cons (.idx (.slot 0) (.cst (.int 0))) .nil))) (.not (.blt .all (.cons (.lc [2] (.nm 2) (.dat (.slot 1)) .nil (.isi (.slot 2) .tuple)) .nil)))))
        [.val (.tuple [.tuple ps, w]), .val (.tuple rows), .un, .un, .un] = .ok (.bool (!(decide (rows.length = ps.length) && rows.all (isTy .tuple)))) := by
      apply ok_of
      · repeat' first
          | (with_reducible apply ev_lenT)
          | (first | (with_reducible apply ev_slot; exact rfl) | with_reducible exact ev_cst | with_reducible exact ev_glo | (with_reducible apply ev_borv; exact rfl) | (with_reducible apply ev_boro; exact rfl) | with_reducible exact evs_nil | with_reducible exact evo_non | with_reducible apply evo_som | with_reducible apply evs_cons | with_reducible apply ev_and | with_reducible apply ev_or | with_reducible apply ev_not | with_reducible apply ev_chn | with_reducible apply ev_isi | with_reducible apply ev_isk | with_reducible apply ev_cmp | with_reducible apply ev_idx' | with_reducible apply ev_bin' | with_reducible apply ev_sli' | with_reducible apply ev_rev' | with_reducible apply ev_neg | with_reducible apply ev_call' | with_reducible apply ev_all | with_reducible apply ev_blt' | with_reducible apply ev_tup | with_reducible apply ev_lst | with_reducible apply ev_lc | with_reducible apply ev_lcf | with_reducible apply it_dat | with_reducible apply it_zip | with_reducible apply it_enu | (show ∃ env', _ = R.ok env' ∧ _; refine ⟨_, rfl, ?_⟩) | (show ∃ env', _ = R.ok env' ∧ _ ∧ _; refine ⟨_, rfl, ?_, ?_⟩) | (show ∀ _, (_ : Prop); intro _) | (show sz _ = true; apply szAll_mem <;> assumption) | (show (_ : Nat) ≤ _; omega) | (show (_ : Nat) ≤ _; simp only [List.length_map]; omega) | (show _ ∈ _; assumption) | (first | exact dIdxT0 | exact dIdxT1 | exact dIdxL0 | exact dIdxL1 | exact dEq_int | exact dLt_int | exact dLe_int | apply dne_ok | apply dnotin_ok | (show _ = _; assumption) | exact rfl | (show _ = _; apply_assumption)))
      · have e2 : ((rows.length : Int) = (ps.length : Int)) ↔ rows.length = ps.length := by omega
        simp only [isTy, PyData.isTuple, Bool.not_true, Bool.false_or, e2, Bool.not_and]
        rfl
    refine (ifret_out hif rfl).trans ?_
    by_cases hp : (decide (rows.length = ps.length) && rows.all (isTy .tuple)) = true
    · rw [hp, if_neg (by simp)]
      have hq := hp
      rw [Bool.and_eq_true, decide_eq_true_eq] at hq
      have hif2 : evE (.not (.blt .all (.cons (.lc [2, 3] (.t2 (.nm 2) (.nm 3)) (.zip (.slot 1) (.idx (.slot 0) (.cst (.int 0)))) .nil (.cmp .eq (.blt .len (.cons (.slot 2) .nil)) (.idx (.slot 3) (.cst (.int 1))))) .nil)))
          [.val (.tuple [.tuple ps, w]), .val (.tuple rows), .un, .un, .un] = .ok (.bool (!((zipD rows ps).all lensOk))) := by
        refine ev_not (ev_all (it_zip (ev_slot rfl) (ev_idx' (ev_slot rfl) ev_cst dIdxT0) rfl) ?_ fun z hz => ?_)
        · unfold zipD; rw [List.length_zipWith]; omega
        · obtain ⟨r, p, h1, h2, rfl⟩ := mem_zipD hz
          obtain ⟨x, k, rfl, _⟩ := pipe_of hps h2
          obtain ⟨r, rfl⟩ := tup_of (List.all_eq_true.mp hq.2 _ h1)
          exact ⟨_, rfl, ev_cmp (ev_lenT (ev_slot rfl)) (ev_idx' (ev_slot rfl) ev_cst dIdxT1) rfl⟩
      refine (ifret_out hif2 rfl).trans ?_
      by_cases hz : (zipD rows ps).all lensOk = true
      · rw [hz, if_neg (by simp), ret1]
        have hlen : (rows.flatMap itD).length ≤ 16777216 := by
          have h1 : ∀ r ∈ rows, lenD r ≤ 4 := fun r hr => by
            obtain ⟨p, h1, h2⟩ := zip_lens (p := .none) hq.1 hz r hr
            obtain ⟨x, k, rfl, _, _, h3⟩ := pipe_of hps h1
            have h2 : (lenD r : Int) = k := h2
            omega
          have := flat_len h1
          omega
        apply ok_of
        · refine ev_all2 (f := itD) (p := fun _ z => isName z) (it_dat (ev_slot rfl) rfl) hlen fun r hr => ?_
          obtain ⟨xs, rfl⟩ := tup_of (List.all_eq_true.mp hq.2 _ hr)
          refine ⟨_, rfl, it_dat (ev_slot rfl) rfl, fun z hz => ⟨_, rfl, ?_⟩⟩
          have hzs := hg z (szAll_mem (sz_tuple (szAll_mem hs hr)).2 hz)
          exact ev_call' (evs1 (ev_slot rfl)) hzs
        · rw [stOf, hp, hz]; rfl
      · have hz : (zipD rows ps).all lensOk = false := by simpa using hz
        rw [hz, if_pos (by simp), stOf, hp, hz]
        rfl
    · have hp : (decide (rows.length = ps.length) && rows.all (isTy .tuple)) = false := by simpa using hp
      rw [hp, if_pos (by simp), stOf, hp]
      rfl
  | _ => rfl
/-- is_state: of what is no net NoNet is told -/
theorem is_state_ok {g1 g2 : List D → R D} (j1 j2 : Nat) (h1 : ∀ d, sz d = true → fine d = true → g1 [d] = if isNet d = true then .ok .none else .ex "NoNet")
    (h2 : ∀ ps w, arePipes (.tuple ps) = true → ps.length ≤ 1000000 → ∀ d, sz d = true → g2 [.tuple [.tuple ps, w], d] = .ok (.bool (stOf ps d)))
    (n d : D) (hn : sz n = true) (hnf : fine n = true) (hd : sz d = true) :
    runF 2 2 (B_is_state j1 g1 j2 g2) [n, d] = if isNet n = true then .ok (.bool (stOf (itD (fstD n)) d)) else .ex "NoNet" := by
  rw [run1 (np := 2) rfl]
  unfold B_is_state
  have hc := h1 n hn hnf
  rw [exSs, exS, ev_call (evs1 (ev_slot rfl)), hc]
  by_cases hp : isNet n = true
  · rw [if_pos hp, if_pos hp]
    have : ∃ ps ws, n = .tuple [.tuple ps, .tuple ws] ∧ arePipes (.tuple ps) = true := by
      unfold isNet at hp
      split at hp
      · rename_i ps ws
        rw [Bool.and_eq_true] at hp
        exact ⟨ps, ws, rfl, hp.1⟩
      · cases hp
    obtain ⟨ps, ws, rfl, hps⟩ := this
    have e := h2 ps (.tuple ws) hps (sz_tuple (szAll_mem (sz_tuple hn).2 List.mem_cons_self)).1 d hd
    show (exSs (.cons (.ret (.call j2 g2 (.cons (.slot 0) (.cons (.slot 1) .nil)))) .nil) _).out = _
    rw [ret1, ev_call (evs_cons (ev_slot rfl) (evs1 (ev_slot rfl))), e]
    rfl
  · rw [if_neg hp, if_neg hp]
    rfl
end Fp

set_option Elab.async false
set_option linter.all false
set_option maxRecDepth 100000
set_option maxHeartbeats 1000000
/-! What is drawn. -/
namespace Fp
open PySem
section
variable {env : Env} {a b c : E} {i j : Int}
theorem ev_iadd (h1 : evE a env = .ok (.int i)) (h2 : evE b env = .ok (.int j)) : evE (.bin .add a b) env = .ok (.int (i + j)) := ev_bin' h1 h2 rfl
theorem ev_isub (h1 : evE a env = .ok (.int i)) (h2 : evE b env = .ok (.int j)) : evE (.bin .sub a b) env = .ok (.int (i - j)) := ev_bin' h1 h2 rfl
theorem ev_imul (h1 : evE a env = .ok (.int i)) (h2 : evE b env = .ok (.int j)) (h : (decide (-(2 ^ 64) < i) && decide (i < 2 ^ 64) || decide (-(2 ^ 64) < j) && decide (j < 2 ^ 64)) = true) : evE (.bin .mul a b) env = .ok (.int (i * j)) :=
  ev_bin' h1 h2 (by rw [dBin, dMul, if_pos h])
theorem ev_imod (h1 : evE a env = .ok (.int i)) (h2 : evE b env = .ok (.int j)) (h : 0 < j) : evE (.bin .mod a b) env = .ok (.int (i % j)) :=
  ev_bin' h1 h2 (by rw [dBin, if_pos h])
theorem ev_idiv (h1 : evE a env = .ok (.int i)) (h2 : evE b env = .ok (.int j)) (h : (decide (0 < j) && decide (j.natAbs.log2 < 9000)) = true) : evE (.bin .fdiv a b) env = .ok (.int (i / j)) :=
  ev_bin' h1 h2 (by rw [dBin, if_pos h])
theorem ev_ipow (h1 : evE a env = .ok (.int i)) (h2 : evE b env = .ok (.int j)) (h : (decide (0 ≤ j) && decide (j ≤ 1000000) && decide (i.natAbs < 2 ^ 64)) = true) : evE (.bin .pow a b) env = .ok (.int (i ^ j.toNat)) :=
  ev_bin' h1 h2 (by rw [dBin, if_pos h])
end
def drawnT : Ss := .cons (.asn (.nm 3) (.bin .mod (.bin .add (.bin .mul (.bin .mod (.slot 3) (.cst (.int 2147483563))) (.cst (.int 69069))) (.bin .mul (.cst (.int 104723)) (.bin .add (.slot 1) (.cst (.int 1))))) (.cst (.int 2147483563))))
 (.cons (.asn (.nm 3) (.bin .mod (.bin .add (.bin .mul (.slot 3) (.slot 3)) (.bin .fdiv (.slot 3) (.cst (.int 3)))) (.cst (.int 2147483399))))
 (.cons (.ret (.bin .mod (.bin .fdiv (.bin .mod (.bin .add (.bin .mul (.slot 3) (.slot 3)) (.bin .fdiv (.slot 3) (.cst (.int 7)))) (.cst (.int 2147483647))) (.cst (.int 11))) (.slot 2)))
 .nil))
def inR (m : Int) (x : R D) : Prop := ∃ r, 0 ≤ r ∧ r < m ∧ x = .ok (.int r)
theorem drawnT_ok (x : Slot) (k m c : Int) (s4 s5 : Slot) (hm : 0 < m) : inR m (exSs drawnT [x, .val (.int k), .val (.int m), .val (.int c), s4, s5]).out := by
  unfold drawnT
  rw [ex_asn (ev_imod (ev_iadd (ev_imul (ev_imod (ev_slot rfl) ev_cst (by decide)) ev_cst (by simp)) (ev_imul ev_cst (ev_iadd (ev_slot rfl) ev_cst) (by simp))) ev_cst (by decide)) (by simp)]
  generalize hc1 : (c % 2147483563 * 69069 + 104723 * (k + 1)) % 2147483563 = c1
  have b1 : 0 ≤ c1 := by omega
  have b2 : c1 < 2147483563 := by omega
  show inR m (exSs _ [x, .val (.int k), .val (.int m), .val (.int c1), s4, s5]).out
  rw [ex_asn (ev_imod (ev_iadd (ev_imul (ev_slot rfl) (ev_slot rfl) (by simp; omega)) (ev_idiv (ev_slot rfl) ev_cst (by decide))) ev_cst (by decide)) (by simp)]
  have b3 : 0 ≤ (c1 * c1 + c1 / 3) % 2147483399 := Int.emod_nonneg _ (by decide)
  have b4 : (c1 * c1 + c1 / 3) % 2147483399 < 2147483399 := Int.emod_lt_of_pos _ (by decide)
  revert b3 b4
  generalize (c1 * c1 + c1 / 3) % 2147483399 = c2
  intro b3 b4
  show inR m (exSs _ [x, .val (.int k), .val (.int m), .val (.int c2), s4, s5]).out
  rw [ret1, ev_imod (ev_idiv (ev_imod (ev_iadd (ev_imul (ev_slot rfl) (ev_slot rfl) (by simp; omega)) (ev_idiv (ev_slot rfl) ev_cst (by decide))) ev_cst (by decide)) ev_cst (by decide)) (ev_slot rfl) hm]
  exact ⟨_, Int.emod_nonneg _ (by omega), Int.emod_lt_of_pos _ hm, rfl⟩
def drawnW : Ss := .cons (.asn (.nm 5) (.bin .fdiv (.slot 5) (.cst (.int 1000000)))) (.cons (.asn (.nm 4) (.bin .sub (.slot 4) (.cst (.int 1)))) .nil)
def drawnC : E := .and (.cmp .gt (.slot 5) (.cst (.int 0))) (.cmp .gt (.slot 4) (.cst (.int 0)))
theorem drawnW_ok (x k m c : Slot) : ∀ (n N : Nat) (t r : Int), t ≤ n → n < N → ∃ t' r', whlGo (evE drawnC) (exSs drawnW) N [x, k, m, c, .val (.int t), .val (.int r)] = .nx [x, k, m, c, .val (.int t'), .val (.int r')]
  | n, 0, t, r, _, h => by omega
  | n, N + 1, t, r, h, hN => by
    have hc : evE drawnC [x, k, m, c, .val (.int t), .val (.int r)] = .ok (.bool (decide (0 < r) && decide (0 < t))) :=
      ev_and (ev_cmp (ev_slot rfl) ev_cst dLt_int) fun _ => ev_cmp (ev_slot rfl) ev_cst dLt_int
    rw [whlGo, hc]
    by_cases hp : (decide (0 < r) && decide (0 < t)) = true
    · rw [hp]
      have hb : exSs drawnW [x, k, m, c, .val (.int t), .val (.int r)] = .nx [x, k, m, c, .val (.int (t - 1)), .val (.int (r / 1000000))] := by
        unfold drawnW
        rw [ex_asn (ev_idiv (ev_slot rfl) ev_cst (by decide)) (by simp)]
        show exSs _ [x, k, m, c, .val (.int t), .val (.int (r / 1000000))] = _
        rw [ex_asn (ev_isub (ev_slot rfl) ev_cst) (by simp), ex_nil]
        rfl
      show ∃ t' r', (exSs drawnW [x, k, m, c, .val (.int t), .val (.int r)]).andThen (whlGo (evE drawnC) (exSs drawnW) N) = Fl.nx [x, k, m, c, .val (.int t'), .val (.int r')]
      rw [hb]
      simp only [Bool.and_eq_true, decide_eq_true_eq] at hp
      match n, h, hN with
      | 0, h, hN => omega
      | n + 1, h, hN => exact drawnW_ok x k m c n N (t - 1) (r / 1000000) (by omega) (by omega)
    · have hp : (decide (0 < r) && decide (0 < t)) = false := by simpa using hp
      rw [hp]
      exact ⟨t, r, rfl⟩
theorem plain_ints : ∀ ns : List Int, PyData.plainAll (ns.map PyData.int) = true ∧ PyData.depthAll (ns.map PyData.int) ≤ 1
  | [] => ⟨rfl, Nat.zero_le _⟩
  | n :: ns => by
    obtain ⟨i1, i2⟩ := plain_ints ns
    rw [List.map_cons]
    refine ⟨?_, ?_⟩
    · rw [PyData.plainAll, i1]; rfl
    · rw [PyData.depthAll]
      have : PyData.depth (.int n) = 0 := rfl
      omega
theorem fine_ints (ns : List Int) : fine (.list (ns.map PyData.int)) = true := by
  obtain ⟨i1, i2⟩ := plain_ints ns
  unfold fine
  rw [Bool.and_eq_true]
  refine ⟨i1, decide_eq_true ?_⟩
  simp only [PyData.depth]
  omega
theorem eqv_nil (ns : List Int) : PyData.eqv (.list (ns.map PyData.int)) (.list []) = ns.isEmpty := by
  cases ns <;> rfl
def drawnI : Ss := .cons (.asn (.nm 5) (.bin .fdiv (.slot 3) (.bin .pow (.cst (.int 10)) (.cst (.int 18)))))
 (.cons (.whl drawnC drawnW)
 (.cons (.ife (.cmp .gt (.slot 5) (.cst (.int 0))) (.cons (.ret (.bin .mod (.bin .mod (.slot 5) (.cst (.int 1000000))) (.slot 2)))
 .nil) .nil)
 .nil))
theorem drawnI_ok (x k : Slot) (m c t : Int) (s5 : Slot) (hm : 0 < m) (ht : t < 60) : (∃ t' r', exSs drawnI [x, k, .val (.int m), .val (.int c), .val (.int t), s5] = .nx [x, k, .val (.int m), .val (.int c), .val (.int t'), .val (.int r')]) ∨
    ∃ r, 0 ≤ r ∧ r < m ∧ exSs drawnI [x, k, .val (.int m), .val (.int c), .val (.int t), s5] = .rt (.int r) := by
  unfold drawnI
  have e0 : evE (.bin .pow (.cst (.int 10)) (.cst (.int 18))) [x, k, .val (.int m), .val (.int c), .val (.int t), s5] = .ok (.int 1000000000000000000) := ok_of (ev_ipow ev_cst ev_cst (by decide)) (congrArg PyData.int (by decide))
  rw [ex_asn (ev_idiv (ev_slot rfl) e0 (by decide)) (by simp)]
  show (∃ t' r', exSs _ [x, k, .val (.int m), .val (.int c), .val (.int t), .val (.int (c / 1000000000000000000))] = _) ∨ ∃ r, _ ∧ _ ∧ exSs _ [x, k, .val (.int m), .val (.int c), .val (.int t), .val (.int (c / 1000000000000000000))] = _
  obtain ⟨t', r', e1⟩ := drawnW_ok x k (.val (.int m)) (.val (.int c)) 60 turns t (c / 1000000000000000000) (by omega) (by decide)
  rw [exSs, exS, e1]
  have hc : evE (.cmp .gt (.slot 5) (.cst (.int 0))) [x, k, .val (.int m), .val (.int c), .val (.int t'), .val (.int r')] = .ok (.bool (decide (0 < r'))) := ev_cmp (ev_slot rfl) ev_cst dLt_int
  show (∃ t'_1 r'_1, exSs _ [x, k, .val (.int m), .val (.int c), .val (.int t'), .val (.int r')] = _) ∨ ∃ r, _ ∧ _ ∧ exSs _ [x, k, .val (.int m), .val (.int c), .val (.int t'), .val (.int r')] = _
  rw [ex_ifret hc fun _ => ev_imod (ev_imod (ev_slot rfl) ev_cst (by decide)) (ev_slot rfl) hm]
  by_cases hp : decide (0 < r') = true
  · rw [if_pos hp]
    exact .inr ⟨_, Int.emod_nonneg _ (by omega), Int.emod_lt_of_pos _ hm, rfl⟩
  · rw [if_neg hp]
    exact .inl ⟨t', r', ex_nil⟩
theorem drawn_ok (ns : List Int) (hl : ns.length ≤ 1000000) (k m : Int) (hk : 0 ≤ k) (hk2 : k < 1000000) (hm : 0 < m) : inR m (runF 3 6 B__law_drawn [.list (ns.map .int), .int k, .int m]) := by
  rw [run1 (np := 3) rfl]
  show inR m (exSs (.cons (.asn (.nm 3) (.bin .mul (.cst (.int 7)) (.slot 1))) _) [.val (.list (ns.map .int)), .val (.int k), .val (.int m), .un, .un, .un]).out
  rw [ex_asn (ev_imul ev_cst (ev_slot rfl) (by simp)) (by simp)]
  show inR m (exSs (.cons (.ife (.cmp .ne (.slot 0) (.lst .nil)) _ _) _) [.val (.list (ns.map .int)), .val (.int k), .val (.int m), .val (.int (7 * k)), .un, .un]).out
  have hc : evE (.cmp .ne (.slot 0) (.lst .nil)) [.val (.list (ns.map .int)), .val (.int k), .val (.int m), .val (.int (7 * k)), .un, .un] = .ok (.bool (!ns.isEmpty)) :=
    ev_cmp (ev_slot rfl) (ev_lst evs_nil (by simp)) (dne_ok (by
      show dEq _ _ = _
      rw [dEq_ok (fine_ints ns) rfl, eqv_nil]))
  rw [ex_ife hc]
  by_cases he : ns = []
  · subst he
    show inR m ((exSs .nil _).andThen (exSs drawnT)).out
    rw [ex_nil]
    exact drawnT_ok _ k m _ _ _ hm
  · have hpos : 0 < ns.length := List.length_pos_iff.mpr he
    have : (!ns.isEmpty) = true := by simpa using he
    rw [this, if_pos rfl]
    have hln : evE (.blt .len (.cons (.slot 0) .nil)) [.val (.list (ns.map .int)), .val (.int k), .val (.int m), .val (.int (7 * k)), .un, .un] = .ok (.int ns.length) := by
      rw [ev_lenL (ev_slot rfl), List.length_map]
    have hb1 : 0 ≤ k % (ns.length : Int) := Int.emod_nonneg _ (by omega)
    have hb2 : k % (ns.length : Int) < ns.length := Int.emod_lt_of_pos _ (by omega)
    obtain ⟨n, hn⟩ := Int.eq_ofNat_of_zero_le hb1
    have hn2 : n < ns.length := by omega
    have hix : evE (.idx (.slot 0) (.bin .mod (.slot 1) (.blt .len (.cons (.slot 0) .nil)))) [.val (.list (ns.map .int)), .val (.int k), .val (.int m), .val (.int (7 * k)), .un, .un] = .ok (.int ns[n]) := by
      refine ev_idx' (ev_slot rfl) (ev_imod (ev_slot rfl) hln (by omega)) ?_
      rw [hn, dIdx, atI_nat (x := .int ns[n]) (by rw [List.getElem?_map, List.getElem?_eq_getElem hn2]; rfl)]
      rfl
    rw [ex_asn hix (by simp)]
    generalize ns[n] = c
    show inR m (Fl.andThen (exSs _ [.val (.list (ns.map .int)), .val (.int k), .val (.int m), .val (.int c), .un, .un]) _).out
    have hj : (decide ((0 : Int) < (ns.length : Int)) && decide ((ns.length : Int).natAbs.log2 < 9000)) = true := by
      have h1 : (ns.length : Int).natAbs.log2 < 9000 := by
        rw [Int.natAbs_natCast]
        exact (Nat.log2_lt (by omega)).mpr (Nat.lt_of_le_of_lt hl (Nat.lt_of_lt_of_le (by decide : 1000000 < 2 ^ 20) (Nat.pow_le_pow_right (by decide) (by decide))))
      rw [decide_eq_true h1, decide_eq_true (by omega)]; rfl
    have hln2 : ∀ s3 s4 s5, evE (.bin .fdiv (.slot 1) (.blt .len (.cons (.slot 0) .nil))) [.val (.list (ns.map .int)), .val (.int k), .val (.int m), s3, s4, s5] = .ok (.int (k / ns.length)) := fun s3 s4 s5 =>
      ev_idiv (ev_slot rfl) (by rw [ev_lenL (ev_slot rfl), List.length_map]) hj
    rw [ex_asn (hln2 _ _ _) (by simp)]
    generalize ht : k / (ns.length : Int) = t at hln2
    have ht0 : 0 ≤ t := by rw [← ht]; exact Int.ediv_nonneg hk (by omega)
    show inR m (Fl.andThen (exSs (.cons (.ife (.and (.cmp .ge (.slot 3) (.bin .pow (.cst (.int 10)) (.cst (.int 18)))) (.cmp .lt (.slot 4) (.cst (.int 60)))) drawnI .nil) (.cons (.asn (.nm 3) (.bin .add (.slot 3) (.bin .mul (.cst (.int 6553)) (.bin .fdiv (.slot 1) (.blt .len (.cons (.slot 0) .nil)))))) .nil)) [.val (.list (ns.map .int)), .val (.int k), .val (.int m), .val (.int c), .val (.int t), .un]) (exSs drawnT)).out
    have hc2 : evE (.and (.cmp .ge (.slot 3) (.bin .pow (.cst (.int 10)) (.cst (.int 18)))) (.cmp .lt (.slot 4) (.cst (.int 60)))) [.val (.list (ns.map .int)), .val (.int k), .val (.int m), .val (.int c), .val (.int t), .un] = .ok (.bool (decide (1000000000000000000 ≤ c) && decide (t < 60))) :=
      ev_and (ev_cmp (ev_slot rfl) (ok_of (ev_ipow ev_cst ev_cst (by decide)) (congrArg PyData.int (by decide))) dLe_int) fun _ => ev_cmp (ev_slot rfl) ev_cst dLt_int
    rw [ex_ife hc2]
    have last : ∀ s4 s5, inR m (Fl.andThen (exSs (.cons (.asn (.nm 3) (.bin .add (.slot 3) (.bin .mul (.cst (.int 6553)) (.bin .fdiv (.slot 1) (.blt .len (.cons (.slot 0) .nil)))))) .nil) [.val (.list (ns.map .int)), .val (.int k), .val (.int m), .val (.int c), s4, s5]) (exSs drawnT)).out := fun s4 s5 => by
      rw [ex_asn (ev_iadd (ev_slot rfl) (ev_imul ev_cst (hln2 _ _ _) (by simp))) (by simp), ex_nil]
      exact drawnT_ok _ k m _ _ _ hm
    by_cases hp : (decide (1000000000000000000 ≤ c) && decide (t < 60)) = true
    · rw [if_pos hp]
      rw [Bool.and_eq_true, decide_eq_true_eq, decide_eq_true_eq] at hp
      rcases drawnI_ok (.val (.list (ns.map .int))) (.val (.int k)) m c t .un hm hp.2 with ⟨t', r', e⟩ | ⟨r, h1, h2, e⟩
      · rw [e]
        exact last _ _
      · rw [e]
        exact ⟨r, h1, h2, rfl⟩
    · rw [if_neg hp, ex_nil]
      exact last _ _
end Fp

set_option Elab.async false
set_option linter.all false
set_option maxRecDepth 100000
set_option maxHeartbeats 1000000
/-! The nets that are drawn. -/
namespace Fp
open PySem L2
section
variable {env : Env} {e : E} {i j : Nat} {x : D} {xs ys : List D} {r : Ss}
theorem ex_own (h : evE e env = .ok (.list xs)) (hi : i < env.length) : exSs (.cons (.own i e) r) env = exSs r (env.set i (.own (.list xs))) := by
  rw [exSs, exS, h]
  show (ofE (setS i _ env)).andThen _ = _
  rw [setS, if_pos hi]
  rfl
theorem ex_app (h : env[i]? = some (.own (.list xs))) (he : evE e env = .ok x) (hl : xs.length < 16777216) : exSs (.cons (.app i e) r) env = exSs r (env.set i (.own (.list (xs ++ [x])))) := by
  have hi : i < env.length := (List.getElem?_eq_some_iff.mp h).1
  rw [exSs, exS, withO, h]
  try dsimp only
  rw [he, ofR]
  try dsimp only
  rw [if_pos hl, setS, if_pos hi]
  rfl
theorem ex_appop {k : Nat} (hij : i ≠ j) (h : env[i]? = some (.own (.list xs))) (h2 : env[j]? = some (.own (.list ys))) (he : evE e env = .ok (.int (k : Int))) (hk : ys[k]? = some x) (hl : xs.length < 16777216) (hl2 : ys.length ≤ 16777216) :
    exSs (.cons (.appop i j e) r) env = exSs r ((env.set j (.own (.list (ys.eraseIdx k)))).set i (.own (.list (xs ++ [x])))) := by
  have hkl := (List.getElem?_eq_some_iff.mp hk).1
  have hix : ixN ys.length (k : Int) = some k := by
    unfold ixN
    rw [if_pos (by omega), if_pos (by omega)]
    rfl
  rw [exSs, exS, withO, h]
  try dsimp only
  rw [withO, h2]
  try dsimp only
  rw [if_neg hij, he, ofR]
  try dsimp only
  rw [hix]
  try dsimp only
  rw [hk]
  try dsimp only
  rw [if_pos ⟨hl, hl2⟩]
  rfl
def forF (tg : Tg) (b : Ss) : D → Env → Fl := fun x env => match asg tg x env with
  | .ok e => exSs b e
  | _ => .no
theorem ex_for {tg : Tg} {it : It} {b : Ss} {env' : Env} (h : evIt it env = .ok xs) (k : forGo (forF tg b) xs env = .nx env') : exSs (.cons (.for tg it b) r) env = exSs r env' := by
  rw [exSs, exS, h]
  show (forGo (forF tg b) xs env).andThen _ = _
  rw [k]
  rfl
end
theorem for_inv {f : D → Env → Fl} {P : Nat → Env → Prop} : ∀ {xs : List D} {n : Nat} {env : Env}, P n env → (∀ i x, xs[i]? = some x → ∀ env, P (n + i) env → ∃ env', f x env = .nx env' ∧ P (n + i + 1) env') → ∃ env', forGo f xs env = .nx env' ∧ P (n + xs.length) env'
  | [], n, env, h, _ => ⟨env, rfl, h⟩
  | x :: xs, n, env, h, st => by
    obtain ⟨env1, e1, h1⟩ := st 0 x rfl env h
    obtain ⟨env2, e2, h2⟩ := for_inv (f := f) (P := P) (xs := xs) (n := n + 1) h1 fun i y hy env he => by
      have hs := st (i + 1) y (by simpa using hy) env (by rw [show n + (i + 1) = n + 1 + i by omega]; exact he)
      rw [show n + (i + 1) + 1 = n + 1 + i + 1 by omega] at hs
      exact hs
    refine ⟨env2, ?_, by rw [List.length_cons, show n + (xs.length + 1) = n + 1 + xs.length by omega]; exact h2⟩
    rw [forGo, e1]
    exact e2
theorem for_rg {tg : Tg} {b : Ss} {P : Nat → Env → Prop} {n : Nat} {env : Env} (h : P 0 env) (st : ∀ i, i < n → ∀ env, P i env → ∃ env', forF tg b (.int (i : Int)) env = .nx env' ∧ P (i + 1) env') : ∃ env', forGo (forF tg b) (rangeD 0 n) env = .nx env' ∧ P n env' := by
  obtain ⟨env', h1, h2⟩ := for_inv (f := forF tg b) (P := P) (xs := rangeD 0 n) (n := 0) h fun i x hx env he => by
    unfold rangeD at hx
    rw [List.getElem?_map] at hx
    obtain ⟨k, hk, rfl⟩ := Option.map_eq_some_iff.mp hx
    have := List.getElem?_eq_some_iff.mp hk
    obtain ⟨hl, rfl⟩ := this
    simp only [List.getElem_range, Int.zero_add, Nat.zero_add] at *
    exact st i (by simpa using hl) env he
  refine ⟨env', h1, ?_⟩
  simpa [rangeD] using h2
/-- the sign at a place -/
def strAt (z : Str) (i : Nat) : D := match z.cps.toList[i]? with
  | some c => .str ⟨#[c]⟩
  | none => .none
theorem dIdx_str {z : Str} {i : Nat} (h : i < z.length) (hz : z.length ≤ 16777216) : dIdx (.str z) (.int (i : Int)) = .ok (strAt z i) := by
  have hl : i < z.cps.toList.length := by simpa [Str.length] using h
  rw [dIdx, if_pos (by simpa using hz), atI_nat (List.getElem?_eq_getElem hl), strAt, List.getElem?_eq_getElem hl]
  rfl
def Drawn (g : List D → R D) (sc : D) : Prop := ∀ k m : Int, 0 ≤ k → k < 1000000 → 0 < m → inR m (g [sc, .int k, .int m])
/-- pipes as they are drawn -/
def GP (ps : List D) (n : Nat) : Prop := ps.length = n ∧ ∀ i, i < n → ∃ l : Int, ps[i]? = some (.tuple [strAt "pqrs" i, .int l]) ∧ 1 ≤ l ∧ l ≤ 3
theorem GP_snoc {ps : List D} {n : Nat} {l : Int} (h : GP ps n) (h1 : 1 ≤ l) (h2 : l ≤ 3) : GP (ps ++ [.tuple [strAt "pqrs" n, .int l]]) (n + 1) := by
  obtain ⟨hl, h⟩ := h
  refine ⟨by simp [hl], fun i hi => ?_⟩
  by_cases hlt : i < n
  · obtain ⟨l, h3, h4⟩ := h i hlt
    exact ⟨l, by rw [List.getElem?_append_left (by omega)]; exact h3, h4⟩
  · have : i = n := by omega
    subst this
    exact ⟨l, by rw [List.getElem?_append_right (by omega), hl, Nat.sub_self]; rfl, h1, h2⟩
/-- a row of names, none twice -/
def GR (ns row : List D) : Prop := 1 ≤ row.length ∧ row.length ≤ 3 ∧ (∀ x ∈ row, x ∈ ns) ∧ row.Nodup
def GW (ns ws : List D) (n : Nat) : Prop := ws.length = n ∧ ∀ i, i < n → ∃ row : List D, ws[i]? = some (.tuple [strAt "abcd" i, .tuple row]) ∧ GR ns row
theorem GW_snoc {ns ws row : List D} {n : Nat} (h : GW ns ws n) (h1 : GR ns row) : GW ns (ws ++ [.tuple [strAt "abcd" n, .tuple row]]) (n + 1) := by
  obtain ⟨hl, h⟩ := h
  refine ⟨by simp [hl], fun i hi => ?_⟩
  by_cases hlt : i < n
  · obtain ⟨l, h3, h4⟩ := h i hlt
    exact ⟨l, by rw [List.getElem?_append_left (by omega)]; exact h3, h4⟩
  · have : i = n := by omega
    subst this
    exact ⟨row, by rw [List.getElem?_append_right (by omega), hl, Nat.sub_self]; rfl, h1⟩
def GNet (d : D) : Prop := ∃ ps ws n m, d = .tuple [.tuple ps, .tuple ws] ∧ GP ps n ∧ GW (ps.map fstD) ws m ∧ 1 ≤ n ∧ n ≤ 4 ∧ 1 ≤ m ∧ m ≤ 4
theorem GP_mem {ps : List D} {n : Nat} (h : GP ps n) {p : D} (hp : p ∈ ps) : ∃ i l, i < n ∧ p = .tuple [strAt "pqrs" i, .int l] ∧ 1 ≤ l ∧ l ≤ 3 := by
  obtain ⟨i, hi, rfl⟩ := List.mem_iff_getElem.mp hp
  have hl := h.1
  obtain ⟨l, h1, h2⟩ := h.2 i (by omega)
  rw [List.getElem?_eq_getElem hi] at h1
  exact ⟨i, l, by omega, Option.some.inj h1, h2⟩
theorem GP_fst {ps : List D} {n i : Nat} (h : GP ps n) (hi : i < n) : (ps.map fstD)[i]? = some (strAt "pqrs" i) := by
  obtain ⟨l, h1, _⟩ := h.2 i hi
  rw [List.getElem?_map, h1]
  rfl
theorem GP_nodup {ps : List D} {n : Nat} (h : GP ps n) (hn : n ≤ 4) : (ps.map fstD).Nodup := by
  have e : ps.map fstD = (List.range n).map (strAt "pqrs") := by
    apply List.ext_getElem?
    intro i
    by_cases hi : i < n
    · rw [GP_fst h hi, List.getElem?_map, List.getElem?_range hi]; rfl
    · rw [List.getElem?_eq_none (by rw [List.length_map]; have := h.1; omega), List.getElem?_eq_none (by simp; omega)]
  rw [e]
  have h0 : ∀ i, i < 4 → ∀ j, j < 4 → PyData.eqv (strAt "pqrs" i) (strAt "pqrs" j) = decide (i = j) := by decide +kernel
  have this : ∀ i j, i < 4 → j < 4 → strAt "pqrs" i = strAt "pqrs" j → i = j := fun i j hi hj he => by
    have h1 := h0 i hi j hj
    rw [← he, h0 i hi i hi] at h1
    simpa using h1
  rw [List.nodup_iff_pairwise_ne, List.pairwise_map]
  refine List.Pairwise.imp_of_mem ?_ List.nodup_range
  intro a b ha hb hne he
  rw [List.mem_range] at ha hb
  exact hne (this a b (by omega) (by omega) he)
end Fp

set_option Elab.async false
set_option linter.all false
set_option maxRecDepth 100000
set_option maxHeartbeats 1000000
/-! _law_net -/
namespace Fp
open PySem L2
theorem ex_par2 {i j : Nat} {a b : E} {xs ys : List D} {env : Env} {r : Ss} (h1 : evE a env = .ok (.list xs)) (h2 : evE b env = .ok (.list ys)) (hi : i < env.length) (hj : j < env.length) :
    exSs (.cons (.par (.cons i true a (.cons j true b .nil))) r) env = exSs r ((env.set i (.own (.list xs))).set j (.own (.list ys))) := by
  have e : evPs (.cons i true a (.cons j true b .nil)) env = .ok [(i, .own (.list xs)), (j, .own (.list ys))] := by
    rw [evPs, h1, R.bind_ok, evPs, h2]
    rfl
  rw [exSs, exS, e]
  show (ofE (setAll _ env)).andThen _ = _
  rw [setAll, setS, if_pos hi, R.bind_ok, setAll, setS, if_pos (by simpa using hj), R.bind_ok, setAll]
  rfl
section
variable {j : Nat} {g : List D → R D} {sc : D} {at' : Int}
theorem drawn_ev {env : Env} {a b c : E} {k m : Int} (hg : Drawn g sc) (h1 : evE a env = .ok sc) (h2 : evE b env = .ok (.int k)) (h3 : evE c env = .ok (.int m)) (hk : 0 ≤ k) (hk2 : k < 1000000) (hm : 0 < m) :
    ∃ r : Nat, (r : Int) < m ∧ evE (.call j g (.cons a (.cons b (.cons c .nil)))) env = .ok (.int (r : Int)) := by
  obtain ⟨r, r1, r2, e⟩ := hg k m hk hk2 hm
  obtain ⟨n, rfl⟩ := Int.eq_ofNat_of_zero_le r1
  exact ⟨n, r2, ev_call' (evs_cons h1 (evs_cons h2 (evs1 h3))) e⟩
theorem it_rgN {env : Env} {a : E} {n : Nat} (h : evE a env = .ok (.int (n : Int))) (h1 : n < 1000000) : evIt (.rg1 a) env = .ok (rangeD 0 n) := it_rg1 h (by omega) (by omega)
def netB1 (j : Nat) (g : List D → R D) : Ss := .cons (.app 2 (.tup (.cons (.idx (.cst (.str "pqrs")) (.slot 3)) (.cons (.bin .add (.cst (.int 1)) (.call j g (.cons (.slot 0) (.cons (.bin .add (.bin .add (.slot 1) (.cst (.int 1))) (.slot 3)) (.cons (.cst (.int 3)) .nil))))) .nil)))) .nil
def NP1 (sc : D) (at' : Int) (n : Nat) (env : Env) : Prop := ∃ ps s3, env = [.val sc, .val (.int at'), .own (.list ps), s3, .un, .un, .un, .un, .un] ∧ GP ps n
theorem net_l1 (hg : Drawn g sc) (h0 : 0 ≤ at') (h1 : at' < 100000) (i : Nat) (hi : i < 4) (env : Env) (h : NP1 sc at' i env) : ∃ env', forF (.nm 3) (netB1 j g) (.int (i : Int)) env = .nx env' ∧ NP1 sc at' (i + 1) env' := by
  obtain ⟨ps, s3, rfl, hp⟩ := h
  have ha : forF (.nm 3) (netB1 j g) (.int (i : Int)) [.val sc, .val (.int at'), .own (.list ps), s3, .un, .un, .un, .un, .un] = exSs (netB1 j g) [.val sc, .val (.int at'), .own (.list ps), .val (.int i), .un, .un, .un, .un, .un] := rfl
  rw [ha]
  obtain ⟨r, r1, e⟩ := drawn_ev (j := j) (env := [.val sc, .val (.int at'), .own (.list ps), .val (.int i), .un, .un, .un, .un, .un]) (a := .slot 0) (b := .bin .add (.bin .add (.slot 1) (.cst (.int 1))) (.slot 3)) (c := .cst (.int 3)) hg (ev_slot rfl) (ev_iadd (ev_iadd (ev_slot rfl) ev_cst) (ev_slot rfl)) ev_cst (by omega) (by omega) (by omega)
  unfold netB1
  rw [ex_app rfl (ev_tup (evs_cons (ev_idx' ev_cst (ev_slot rfl) (dIdx_str (z := "pqrs") (i := i) (Nat.lt_of_lt_of_eq hi (by decide)) (by decide))) (evs1 (ev_iadd ev_cst e))) (by simp)) (by have := hp.1; omega), ex_nil]
  exact ⟨_, rfl, _, _, rfl, GP_snoc hp (by omega) (by omega)⟩
def netB3 (j : Nat) (g : List D → R D) : Ss := .cons (.appop 6 5 (.call j g (.cons (.slot 0) (.cons (.bin .add (.bin .add (.bin .add (.slot 1) (.cst (.int 7))) (.bin .mul (.cst (.int 4)) (.slot 3))) (.slot 8)) (.cons (.blt .len (.cons (.bor 5) .nil)) .nil))))) .nil
def NP3 (sc : D) (at' : Int) (ps ws : List D) (k : Nat) (n : Nat) (env : Env) : Prop := ∃ left row s8, env = [.val sc, .val (.int at'), .own (.list ps), .val (.int k), .own (.list ws), .own (.list left), .own (.list row), .un, s8] ∧ row.length = n ∧ (row ++ left).Perm (ps.map fstD)
theorem erase_perm : ∀ {xs : List D} {r : Nat} (h : r < xs.length), ([xs[r]] ++ xs.eraseIdx r).Perm xs
  | x :: xs, 0, _ => List.Perm.refl _
  | x :: xs, r + 1, h => by
    have ih := erase_perm (xs := xs) (r := r) (by simpa using h)
    rw [List.eraseIdx_cons_succ, List.getElem_cons_succ]
    exact (List.Perm.swap _ _ _).trans (List.Perm.cons x ih)
theorem perm_pop {row left ns : List D} {r : Nat} {x : D} (h : (row ++ left).Perm ns) (hx : left[r]? = some x) : ((row ++ [x]) ++ left.eraseIdx r).Perm ns := by
  refine List.Perm.trans ?_ h
  rw [List.append_assoc]
  refine List.Perm.append_left row ?_
  obtain ⟨hl, rfl⟩ := List.getElem?_eq_some_iff.mp hx
  exact erase_perm hl
theorem net_l3 {ps ws : List D} {k : Nat} (hg : Drawn g sc) (h0 : 0 ≤ at') (h1 : at' < 100000) (hk : k < 4) (hps : ps.length ≤ 4) (i : Nat) (hi : i < ps.length) (env : Env) (h : NP3 sc at' ps ws k i env) : ∃ env', forF (.nm 8) (netB3 j g) (.int (i : Int)) env = .nx env' ∧ NP3 sc at' ps ws k (i + 1) env' := by
  obtain ⟨left, row, s8, rfl, hr, hp⟩ := h
  have hlen := hp.length_eq
  rw [List.length_append, List.length_map] at hlen
  have ha : forF (.nm 8) (netB3 j g) (.int (i : Int)) [.val sc, .val (.int at'), .own (.list ps), .val (.int k), .own (.list ws), .own (.list left), .own (.list row), .un, s8] = exSs (netB3 j g) [.val sc, .val (.int at'), .own (.list ps), .val (.int k), .own (.list ws), .own (.list left), .own (.list row), .un, .val (.int i)] := rfl
  rw [ha]
  obtain ⟨r, r1, e⟩ := drawn_ev (j := j) (env := [.val sc, .val (.int at'), .own (.list ps), .val (.int k), .own (.list ws), .own (.list left), .own (.list row), .un, .val (.int i)]) (a := .slot 0) (b := .bin .add (.bin .add (.bin .add (.slot 1) (.cst (.int 7))) (.bin .mul (.cst (.int 4)) (.slot 3))) (.slot 8)) (c := .blt .len (.cons (.bor 5) .nil)) hg (ev_slot rfl)
    (ev_iadd (ev_iadd (ev_iadd (ev_slot rfl) ev_cst) (ev_imul ev_cst (ev_slot rfl) (by simp))) (ev_slot rfl)) (ev_lenL (ev_boro rfl)) (by omega) (by omega) (by omega)
  have hx : left[r]? = some left[r] := List.getElem?_eq_getElem (by omega)
  unfold netB3
  rw [ex_appop (k := r) (by decide) rfl rfl e hx (by omega) (by omega), ex_nil]
  exact ⟨_, rfl, _, _, _, rfl, by simp [hr], perm_pop hp hx⟩
def netB2 (j : Nat) (g : List D → R D) : Ss := .cons (.par (.cons 5 true (.lc [7] (.nm 7) (.dat (.bor 2)) .nil (.idx (.slot 7) (.cst (.int 0)))) (.cons 6 true (.lst .nil) .nil)))
 (.cons (.for (.nm 8) (.rg1 (.bin .add (.cst (.int 1)) (.call j g (.cons (.slot 0) (.cons (.bin .add (.bin .add (.slot 1) (.cst (.int 6))) (.bin .mul (.cst (.int 4)) (.slot 3))) (.cons (.blt .min2 (.cons (.cst (.int 3)) (.cons (.blt .len (.cons (.bor 2) .nil)) .nil))) .nil)))))) (netB3 j g))
 (.cons (.app 4 (.tup (.cons (.idx (.cst (.str "abcd")) (.slot 3)) (.cons (.blt .tuple (.cons (.bor 6) .nil)) .nil))))
 .nil))
def NP2 (sc : D) (at' : Int) (ps : List D) (n : Nat) (env : Env) : Prop := ∃ ws s3 s5 s6 s8, env = [.val sc, .val (.int at'), .own (.list ps), s3, .own (.list ws), s5, s6, .un, s8] ∧ GW (ps.map fstD) ws n
theorem net_l2 {ps : List D} {n : Nat} (hg : Drawn g sc) (h0 : 0 ≤ at') (h1 : at' < 100000) (hps : GP ps n) (hn : 1 ≤ n) (hn4 : n ≤ 4) (i : Nat) (hi : i < 4) (env : Env) (h : NP2 sc at' ps i env) : ∃ env', forF (.nm 3) (netB2 j g) (.int (i : Int)) env = .nx env' ∧ NP2 sc at' ps (i + 1) env' := by
  obtain ⟨ws, s3, s5, s6, s8, rfl, hw⟩ := h
  have hpl := hps.1
  have ha : forF (.nm 3) (netB2 j g) (.int (i : Int)) [.val sc, .val (.int at'), .own (.list ps), s3, .own (.list ws), s5, s6, .un, s8] = exSs (netB2 j g) [.val sc, .val (.int at'), .own (.list ps), .val (.int i), .own (.list ws), s5, s6, .un, s8] := rfl
  rw [ha]
  have i0 : ∀ x ∈ ps, dIdx x (.int 0) = .ok (fstD x) := fun x hx => by
    obtain ⟨i, l, _, rfl, _⟩ := GP_mem hps hx
    rfl
  unfold netB2
  rw [ex_par2 (ev_lc (g := fstD) (it_dat (ev_boro rfl) rfl) (by omega) fun x hx => ⟨_, rfl, ev_idx' (ev_slot rfl) ev_cst (i0 x hx)⟩) (ev_lst evs_nil (by simp)) (by simp) (by simp)]
  show ∃ env', exSs _ [.val sc, .val (.int at'), .own (.list ps), .val (.int i), .own (.list ws), .own (.list (ps.map fstD)), .own (.list []), .un, s8] = _ ∧ _
  have hmin : evE (.blt .min2 (.cons (.cst (.int 3)) (.cons (.blt .len (.cons (.bor 2) .nil)) .nil))) [.val sc, .val (.int at'), .own (.list ps), .val (.int i), .own (.list ws), .own (.list (ps.map fstD)), .own (.list []), .un, s8] = .ok (.int (if (ps.length : Int) < 3 then (ps.length : Int) else 3)) :=
    ev_blt' (evs_cons ev_cst (evs1 (ev_lenL (ev_boro rfl)))) rfl
  obtain ⟨r, r1, e⟩ := drawn_ev (j := j) (b := .bin .add (.bin .add (.slot 1) (.cst (.int 6))) (.bin .mul (.cst (.int 4)) (.slot 3))) hg (ev_slot (i := 0) rfl) (ev_iadd (ev_iadd (ev_slot rfl) ev_cst) (ev_imul ev_cst (ev_slot rfl) (by simp))) hmin (by omega) (by omega) (by split <;> omega)
  have hr3 : r < 3 := by split at r1 <;> omega
  have hrp : r < ps.length := by split at r1 <;> omega
  obtain ⟨env', e1, left, row, s8', rfl, hrl, hperm⟩ := for_rg (n := 1 + r) (tg := .nm 8) (b := netB3 j g) (P := NP3 sc at' ps ws i) (env := [.val sc, .val (.int at'), .own (.list ps), .val (.int i), .own (.list ws), .own (.list (ps.map fstD)), .own (.list []), .un, s8])
    ⟨_, _, _, rfl, rfl, List.Perm.refl _⟩ fun m hm env he => net_l3 hg h0 h1 hi (by omega) m (by omega) env he
  rw [ex_for (it_rgN (n := 1 + r) (ok_of (ev_iadd ev_cst e) (by simp)) (by omega)) e1]
  have hnd : row.Nodup := by
    have := hperm.symm.nodup (GP_nodup hps hn4)
    exact (List.nodup_append.mp this).1
  have hsub : ∀ x ∈ row, x ∈ ps.map fstD := fun x hx => hperm.subset (List.mem_append_left _ hx)
  rw [ex_app rfl (ev_tup (evs_cons (ev_idx' ev_cst (ev_slot rfl) (dIdx_str (z := "abcd") (i := i) (Nat.lt_of_lt_of_eq hi (by decide)) (by decide))) (evs1 (ev_blt' (evs1 (ev_boro rfl)) rfl))) (by simp)) (by have := hw.1; omega), ex_nil]
  exact ⟨_, rfl, _, _, _, _, _, rfl, GW_snoc hw ⟨by omega, by omega, hsub, hnd⟩⟩
theorem net_ok (hg : Drawn g sc) (h0 : 0 ≤ at') (h1 : at' < 100000) : ∃ d, runF 2 9 (B__law_net j g) [sc, .int at'] = .ok d ∧ GNet d := by
  rw [run1 (np := 2) rfl]
  show ∃ d, (exSs (.cons (.own 2 (.lst .nil)) (.cons (.for (.nm 3) (.rg1 (.bin .add (.cst (.int 1)) (.call j g (.cons (.slot 0) (.cons (.slot 1) (.cons (.cst (.int 4)) .nil)))))) (netB1 j g))
    (.cons (.own 4 (.lst .nil)) (.cons (.for (.nm 3) (.rg1 (.bin .add (.cst (.int 1)) (.call j g (.cons (.slot 0) (.cons (.bin .add (.slot 1) (.cst (.int 5))) (.cons (.cst (.int 4)) .nil)))))) (netB2 j g)) _))))
    [.val sc, .val (.int at'), .un, .un, .un, .un, .un, .un, .un]).out = _ ∧ _
  rw [ex_own (ev_lst evs_nil (by simp)) (by simp)]
  obtain ⟨r, r1, e⟩ := drawn_ev (j := j) (env := [.val sc, .val (.int at'), .own (.list []), .un, .un, .un, .un, .un, .un]) (c := .cst (.int 4)) hg (ev_slot (i := 0) rfl) (ev_slot (i := 1) rfl) ev_cst (by omega) (by omega) (by omega)
  obtain ⟨env', e1, ps, s3, rfl, hps⟩ := for_rg (n := 1 + r) (tg := .nm 3) (b := netB1 j g) (P := NP1 sc at') (env := [.val sc, .val (.int at'), .own (.list []), .un, .un, .un, .un, .un, .un])
    ⟨_, _, rfl, rfl, fun i hi => by omega⟩ fun m hm env he => net_l1 hg h0 h1 m (by omega) env he
  show ∃ d, (exSs _ [.val sc, .val (.int at'), .own (.list []), .un, .un, .un, .un, .un, .un]).out = _ ∧ _
  rw [ex_for (it_rgN (n := 1 + r) (ok_of (ev_iadd ev_cst e) (by simp)) (by omega)) e1]
  rw [ex_own (ev_lst evs_nil (by simp)) (by simp)]
  show ∃ d, (exSs _ [.val sc, .val (.int at'), .own (.list ps), s3, .own (.list []), .un, .un, .un, .un]).out = _ ∧ _
  obtain ⟨r', r2, e2⟩ := drawn_ev (j := j) (env := [.val sc, .val (.int at'), .own (.list ps), s3, .own (.list []), .un, .un, .un, .un]) (c := .cst (.int 4)) hg (ev_slot (i := 0) rfl) (ev_iadd (ev_slot (i := 1) rfl) (ev_cst (d := .int 5))) ev_cst (by omega) (by omega) (by omega)
  obtain ⟨env', e3, ws, s3', s5, s6, s8, rfl, hws⟩ := for_rg (n := 1 + r') (tg := .nm 3) (b := netB2 j g) (P := NP2 sc at' ps) (env := [.val sc, .val (.int at'), .own (.list ps), s3, .own (.list []), .un, .un, .un, .un])
    ⟨_, _, _, _, _, rfl, rfl, fun i hi => by omega⟩ fun m hm env he => net_l2 hg h0 h1 hps (by omega) (by omega) m (by omega) env he
  rw [ex_for (it_rgN (n := 1 + r') (ok_of (ev_iadd ev_cst e2) (by simp)) (by omega)) e3]
  rw [ret1, ev_tup (evs_cons (ev_blt' (evs1 (ev_boro rfl)) rfl) (evs1 (ev_blt' (evs1 (ev_boro rfl)) rfl))) (by simp)]
  exact ⟨_, rfl, ps, ws, 1 + r, 1 + r', rfl, hps, hws, by omega, by omega, by omega, by omega⟩
end
end Fp

set_option Elab.async false
set_option linter.all false
set_option maxRecDepth 100000
set_option maxHeartbeats 1000000
/-! _law_state -/
namespace Fp
open PySem L2
theorem ev_lc_ex {own : List Nat} {tg : Tg} {it : It} {e : E} {env : Env} {xs : List D} {Q : D → Prop} (hi : evIt it env = .ok xs) (hl : xs.length ≤ 16777216) (h : ∀ x ∈ xs, ∃ env' y, asg tg x (wipeE env own) = .ok env' ∧ evE e env' = .ok y ∧ Q y) :
    ∃ ys, evE (.lc own tg it .nil e) env = .ok (.list ys) ∧ ys.length = xs.length ∧ ∀ y ∈ ys, Q y := by
  have h' : ∀ x, ∃ y, x ∈ xs → ∃ env', asg tg x (wipeE env own) = .ok env' ∧ evE e env' = .ok y ∧ Q y := fun x => by
    by_cases hx : x ∈ xs
    · obtain ⟨env', y, h1⟩ := h x hx
      exact ⟨y, fun _ => ⟨env', h1⟩⟩
    · exact ⟨.none, fun k => absurd k hx⟩
  refine ⟨xs.map fun x => Classical.choose (h' x), ev_lc hi hl fun x hx => ?_, by simp, fun y hy => ?_⟩
  · obtain ⟨env', h1, h2, _⟩ := Classical.choose_spec (h' x) hx
    exact ⟨env', h1, h2⟩
  · obtain ⟨x, hx, rfl⟩ := List.mem_map.mp hy
    obtain ⟨_, _, _, h3⟩ := Classical.choose_spec (h' x) hx
    exact h3
def slugs : List D := [.str "x", .str "y", .str "z", .str "oil"]
/-- a row as it is drawn -/
def SR (p d : D) : Prop := ∃ xs : List D, d = .tuple xs ∧ (xs.length : Int) = intD (sndD p) ∧ ∀ x ∈ xs, x ∈ slugs
def GS (ps rows : List D) (n : Nat) : Prop := rows.length = n ∧ ∀ i, i < n → ∃ p r, ps[i]? = some p ∧ rows[i]? = some r ∧ SR p r
theorem GS_snoc {ps rows : List D} {n : Nat} {p r : D} (h : GS ps rows n) (hp : ps[n]? = some p) (h1 : SR p r) : GS ps (rows ++ [r]) (n + 1) := by
  obtain ⟨hl, h⟩ := h
  refine ⟨by simp [hl], fun i hi => ?_⟩
  by_cases hlt : i < n
  · obtain ⟨p, r, h3, h4, h5⟩ := h i hlt
    exact ⟨p, r, h3, by rw [List.getElem?_append_left (by omega)]; exact h4, h5⟩
  · have : i = n := by omega
    subst this
    exact ⟨p, r, hp, by rw [List.getElem?_append_right (by omega), hl, Nat.sub_self]; rfl, h1⟩
def GState (ps : List D) (d : D) : Prop := ∃ rows, d = .tuple rows ∧ GS ps rows ps.length
section
variable {j : Nat} {g : List D → R D} {sc : D} {at' : Int}
def stB (j : Nat) (g : List D → R D) : Ss := .cons (.app 3 (.blt .tuple (.cons (.lc [7] (.nm 7) (.rg1 (.slot 6)) .nil (.idx (.lst (.cons (.cst (.str "x")) (.cons (.cst (.str "y")) (.cons (.cst (.str "z")) (.cons (.cst (.str "oil")) .nil))))) (.call j g (.cons (.slot 0) (.cons (.bin .add (.bin .add (.slot 1) (.slot 4)) (.slot 7)) (.cons (.cst (.int 4)) .nil)))))) .nil)))
 (.cons (.asn (.nm 4) (.bin .add (.slot 4) (.slot 6)))
 .nil)
def SP (sc : D) (at' : Int) (net : D) (ps : List D) (n : Nat) (env : Env) : Prop := ∃ rows k s5 s6, env = [.val sc, .val (.int at'), .val net, .own (.list rows), .val (.int k), s5, s6, .un] ∧ GS ps rows n ∧ 0 ≤ k ∧ k ≤ 4 * n
theorem st_l {net : D} {ps : List D} {n : Nat} (hg : Drawn g sc) (h0 : 0 ≤ at') (h1 : at' < 100000) (hps : GP ps n) (hn : n ≤ 6) (i : Nat) (x : D) (hx : ps[i]? = some x) (env : Env) (h : SP sc at' net ps i env) : ∃ env', forF (.t2 (.nm 5) (.nm 6)) (stB j g) x env = .nx env' ∧ SP sc at' net ps (i + 1) env' := by
  obtain ⟨rows, k, s5, s6, rfl, hr, hk1, hk2⟩ := h
  have hil := (List.getElem?_eq_some_iff.mp hx).1
  have hpl := hps.1
  obtain ⟨_, l, _, rfl, hl1, hl2⟩ := GP_mem hps (List.mem_of_getElem? hx)
  rename_i i' _
  generalize hnm : strAt "pqrs" i' = nm at hx ⊢
  have ha : forF (.t2 (.nm 5) (.nm 6)) (stB j g) (.tuple [nm, .int l]) [.val sc, .val (.int at'), .val net, .own (.list rows), .val (.int k), s5, s6, .un] = exSs (stB j g) [.val sc, .val (.int at'), .val net, .own (.list rows), .val (.int k), .val nm, .val (.int l), .un] := rfl
  rw [ha]
  obtain ⟨ln, rfl⟩ := Int.eq_ofNat_of_zero_le (Int.le_trans (by decide : (0 : Int) ≤ 1) hl1)
  obtain ⟨ys, e1, e2, e3⟩ := ev_lc_ex (own := [7]) (tg := .nm 7) (it := .rg1 (.slot 6)) (e := .idx (.lst (.cons (.cst (.str "x")) (.cons (.cst (.str "y")) (.cons (.cst (.str "z")) (.cons (.cst (.str "oil")) .nil))))) (.call j g (.cons (.slot 0) (.cons (.bin .add (.bin .add (.slot 1) (.slot 4)) (.slot 7)) (.cons (.cst (.int 4)) .nil)))))
    (env := [.val sc, .val (.int at'), .val net, .own (.list rows), .val (.int k), .val nm, .val (.int ln), .un]) (Q := fun x => x ∈ slugs) (it_rgN (n := ln) (ev_slot rfl) (by omega)) (by simp [rangeD]; omega) fun y hy => by
      obtain ⟨m, hm, rfl⟩ := List.mem_map.mp hy
      have hm := List.mem_range.mp hm
      obtain ⟨r, r1, e⟩ := drawn_ev (j := j) (env := [.val sc, .val (.int at'), .val net, .own (.list rows), .val (.int k), .val nm, .val (.int ln), .val (.int (0 + (m : Int)))]) (a := .slot 0) (b := .bin .add (.bin .add (.slot 1) (.slot 4)) (.slot 7)) (c := .cst (.int 4)) hg (ev_slot rfl) (ev_iadd (ev_iadd (ev_slot rfl) (ev_slot rfl)) (ev_slot rfl)) ev_cst (by omega) (by omega) (by omega)
      have hr4 : r < slugs.length := by simp [slugs]; omega
      refine ⟨_, slugs[r], rfl, ev_idx' (ev_lst (evs_cons ev_cst (evs_cons ev_cst (evs_cons ev_cst (evs1 ev_cst)))) (by simp)) e ?_, List.getElem_mem _⟩
      show ofO (atI slugs (r : Int)) = _
      rw [atI_nat (List.getElem?_eq_getElem hr4)]
      rfl
  unfold stB
  rw [ex_app rfl (ev_blt' (v := .tuple ys) (evs1 e1) rfl) (by have := hr.1; omega)]
  show ∃ env', exSs _ [.val sc, .val (.int at'), .val net, .own (.list (rows ++ [.tuple ys])), .val (.int k), .val nm, .val (.int ln), .un] = _ ∧ _
  rw [ex_asn (ev_iadd (ev_slot rfl) (ev_slot rfl)) (by simp), ex_nil]
  refine ⟨_, rfl, _, _, _, _, rfl, GS_snoc hr hx ⟨ys, rfl, ?_, e3⟩, by omega, by omega⟩
  rw [e2]
  simp [rangeD, sndD, intD]
theorem state_ok {ps : List D} {w : D} {n : Nat} (hg : Drawn g sc) (h0 : 0 ≤ at') (h1 : at' < 100000) (hps : GP ps n) (hn : n ≤ 6) : ∃ d, runF 3 8 (B__law_state j g) [sc, .int at', .tuple [.tuple ps, w]] = .ok d ∧ GState ps d := by
  rw [run1 (np := 3) rfl]
  show ∃ d, (exSs (.cons (.par (.cons 3 true (.lst .nil) (.cons 4 false (.cst (.int 0)) .nil))) (.cons (.for (.t2 (.nm 5) (.nm 6)) (.dat (.idx (.slot 2) (.cst (.int 0)))) (stB j g)) _)) [.val sc, .val (.int at'), .val (.tuple [.tuple ps, w]), .un, .un, .un, .un, .un]).out = _ ∧ _
  have hp : exSs (.cons (.par (.cons 3 true (.lst .nil) (.cons 4 false (.cst (.int 0)) .nil))) .nil) [.val sc, .val (.int at'), .val (.tuple [.tuple ps, w]), .un, .un, .un, .un, .un] = .nx [.val sc, .val (.int at'), .val (.tuple [.tuple ps, w]), .own (.list []), .val (.int 0), .un, .un, .un] := rfl
  rw [exSs] at hp ⊢
  have hp2 : exS (.par (.cons 3 true (.lst .nil) (.cons 4 false (.cst (.int 0)) .nil))) [.val sc, .val (.int at'), .val (.tuple [.tuple ps, w]), .un, .un, .un, .un, .un] = .nx [.val sc, .val (.int at'), .val (.tuple [.tuple ps, w]), .own (.list []), .val (.int 0), .un, .un, .un] := rfl
  rw [hp2]
  obtain ⟨env', e1, rows, k, s5, s6, rfl, hr, _⟩ := for_inv (f := forF (.t2 (.nm 5) (.nm 6)) (stB j g)) (P := SP sc at' (.tuple [.tuple ps, w]) ps) (xs := ps) (n := 0) (env := [.val sc, .val (.int at'), .val (.tuple [.tuple ps, w]), .own (.list []), .val (.int 0), .un, .un, .un])
    ⟨_, _, _, _, rfl, ⟨rfl, fun i hi => by omega⟩, by omega, by omega⟩ fun i x hx env he => by
      rw [Nat.zero_add] at he ⊢
      exact st_l hg h0 h1 hps hn i x hx env he
  show ∃ d, (exSs _ [.val sc, .val (.int at'), .val (.tuple [.tuple ps, w]), .own (.list []), .val (.int 0), .un, .un, .un]).out = _ ∧ _
  rw [ex_for (it_dat (ev_idx' (ev_slot rfl) ev_cst dIdxT0) rfl) e1, ret1, ev_blt' (v := .tuple rows) (evs1 (ev_boro rfl)) rfl]
  rw [Nat.zero_add] at hr
  exact ⟨_, rfl, rows, rfl, hr⟩
end
end Fp

set_option Elab.async false
set_option linter.all false
set_option maxRecDepth 100000
set_option maxHeartbeats 1000000
/-! Nets that are none. -/
namespace Fp
open PySem L2
/-- tame: plain, not deep, not large -/
def Tm (k : Nat) (d : D) : Prop := d.plain = true ∧ d.depth ≤ k ∧ sz d = true
theorem Tm_all {k : Nat} : ∀ {xs : List D}, (∀ x ∈ xs, Tm k x) → PyData.plainAll xs = true ∧ PyData.depthAll xs ≤ k ∧ szAll xs = true
  | [], _ => ⟨rfl, Nat.zero_le _, rfl⟩
  | x :: xs, h => by
    obtain ⟨i1, i2, i3⟩ := Tm_all fun y hy => h y (List.mem_cons_of_mem _ hy)
    obtain ⟨j1, j2, j3⟩ := h x List.mem_cons_self
    refine ⟨?_, ?_, ?_⟩
    · rw [PyData.plainAll, j1, i1]; rfl
    · rw [PyData.depthAll]; omega
    · rw [szAll, j3, i3]; rfl
theorem Tm_tuple {k : Nat} {xs : List D} (hl : xs.length ≤ 1000000) (h : ∀ x ∈ xs, Tm k x) : Tm (k + 1) (.tuple xs) := by
  obtain ⟨i1, i2, i3⟩ := Tm_all h
  refine ⟨by rw [PyData.plain]; exact i1, by rw [PyData.depth]; omega, ?_⟩
  rw [sz, decide_eq_true hl, i3]; rfl
theorem Tm_list {k : Nat} {xs : List D} (hl : xs.length ≤ 1000000) (h : ∀ x ∈ xs, Tm k x) : Tm (k + 1) (.list xs) := by
  obtain ⟨i1, i2, i3⟩ := Tm_all h
  refine ⟨by rw [PyData.plain]; exact i1, by rw [PyData.depth]; omega, ?_⟩
  rw [sz, decide_eq_true hl, i3]; rfl
theorem Tm_mono {k m : Nat} {d : D} (h : Tm k d) (hk : k ≤ m) : Tm m d := ⟨h.1, Nat.le_trans h.2.1 hk, h.2.2⟩
theorem Tm_fine {k : Nat} {d : D} (h : Tm k d) (hk : k ≤ 60) : fine d = true := by
  unfold fine
  rw [h.1, decide_eq_true (Nat.le_trans h.2.1 hk)]; rfl
theorem Tm_int {k : Nat} {i : Int} : Tm k (.int i) := ⟨rfl, Nat.zero_le _, rfl⟩
theorem Tm_bool {k : Nat} {b : Bool} : Tm k (.bool b) := ⟨rfl, Nat.zero_le _, rfl⟩
theorem Tm_none {k : Nat} : Tm k .none := ⟨rfl, Nat.zero_le _, rfl⟩
theorem Tm_str {k : Nat} {z : Str} (h : decide (z.length ≤ 1000000) = true) : Tm k (.str z) := ⟨rfl, Nat.zero_le _, h⟩
theorem Tm_nil {k : Nat} : ∀ x ∈ ([] : List D), Tm k x := fun _ h => nomatch h
theorem Tm_cons {k : Nat} {x : D} {xs : List D} (h : Tm k x) (h2 : ∀ y ∈ xs, Tm k y) : ∀ y ∈ x :: xs, Tm k y := fun y hy => by
  rcases List.mem_cons.mp hy with rfl | hy
  · exact h
  · exact h2 y hy
theorem Tm_app {k : Nat} {xs ys : List D} (h : ∀ y ∈ xs, Tm k y) (h2 : ∀ y ∈ ys, Tm k y) : ∀ y ∈ xs ++ ys, Tm k y := fun y hy => by
  rcases List.mem_append.mp hy with hy | hy
  · exact h y hy
  · exact h2 y hy
theorem Tm_alls {k m : Nat} {xs : List D} (h : ∀ x ∈ xs, Tm k x) (hk : k ≤ m) : ∀ x ∈ xs, Tm m x := fun x hx => Tm_mono (h x hx) hk
/-- none of the nets -/
def Bad (d : D) : Prop := isNet d = false ∧ Tm 10 d
theorem bad_pipes {ps ws : List D} (h : arePipes (.tuple ps) = false) : isNet (.tuple [.tuple ps, .tuple ws]) = false := by rw [isNet, h]; rfl
theorem bad_pair {x : D} {ps : List D} (h : isPair x = false) : arePipes (.tuple (x :: ps)) = false := by
  rw [arePipes, List.all_cons, h]
  simp
theorem bad_whole {x : D} {ps : List D} (h : isWhole (sndD x) 1 4 = false) : arePipes (.tuple (x :: ps)) = false := by
  have e : (x :: ps).all (fun p => isWhole (sndD p) 1 4) = false := by rw [List.all_cons, h]; rfl
  rw [arePipes, e]
  simp
theorem bad_ris {ps : List D} (h : risD (ps.map fstD) = false) : arePipes (.tuple ps) = false := by
  rw [arePipes, h]
  simp
theorem bad_way {ps ws : List D} {w : D} (hw : w ∈ ws) (h : (isPair w && isRow (ps.map fstD) (sndD w)) = false) : isNet (.tuple [.tuple ps, .tuple ws]) = false := by
  have : ws.all (fun w => isPair w && isRow (ps.map fstD) (sndD w)) = false := by
    rw [List.all_eq_false]
    exact ⟨w, hw, by rw [h]; simp⟩
  rw [isNet, this]
  simp
theorem bad_wris {ps ws : List D} (h : risD (ws.map fstD) = false) : isNet (.tuple [.tuple ps, .tuple ws]) = false := by
  rw [isNet, h]
  simp
theorem bad_wlen {ps ws : List D} (h : (decide (1 ≤ ws.length) && decide (ws.length ≤ 8)) = false) : isNet (.tuple [.tuple ps, .tuple ws]) = false := by
  rw [isNet, h]
  simp
theorem bad_row {ns : List D} {w x : D} (h : isRow ns x = false) : (isPair (.tuple [w, x]) && isRow ns (sndD (.tuple [w, x]))) = false := by
  show (_ && isRow ns x) = false
  rw [h, Bool.and_false]
theorem cut_one (w : D) (zs : List D) : cutD (w :: zs) (some 1) none = zs := by
  have h1 : HT.sIx (w :: zs).length 0 (some 1) = 1 := by
    have := HT.sIx_nat (w :: zs).length 0 1
    rw [show ((1 : Nat) : Int) = 1 from rfl] at this
    rw [this]; simp
  unfold cutD
  rw [h1]
  simp [HT.sIx]
theorem cut_last (ws : List D) (w : D) : cutD (ws ++ [w]) none (some (-1)) = ws := by
  have e1 : HT.sIx (ws ++ [w]).length (ws ++ [w]).length (some (-1)) = ws.length := by
    show (if (-1 : Int) < 0 then ((-1 : Int) + ((ws ++ [w]).length : Nat)).toNat else min ((-1 : Int)).toNat (ws ++ [w]).length) = _
    rw [if_pos (by decide), List.length_append]
    simp
    omega
  unfold cutD
  rw [e1, HT.sIx_none, List.drop_zero, Nat.sub_zero, List.take_left']
  rfl
theorem idx_last (ws : List D) (w : D) : dIdx (.tuple (ws ++ [w])) (.int (-1)) = .ok w := by
  rw [dIdx]
  unfold atI ixN
  rw [if_neg (by decide), if_pos (by rw [List.length_append]; simp; omega)]
  have : ((-1 : Int) + ((ws ++ [w]).length : Nat)).toNat = ws.length := by
    rw [List.length_append]; simp; omega
  rw [this]
  simp [ofO]
theorem GP_four {ps : List D} {n : Nat} (h : GP ps n) (h1 : 1 ≤ n) (h4 : n ≤ 4) : ∃ a b c d : Int, ps = [.tuple [.str "p", .int a], .tuple [.str "q", .int b], .tuple [.str "r", .int c], .tuple [.str "s", .int d]].take n ∧ (1 ≤ a ∧ a ≤ 3) ∧ (1 ≤ b ∧ b ≤ 3) ∧ (1 ≤ c ∧ c ≤ 3) ∧ (1 ≤ d ∧ d ≤ 3) := by
  have H : ∀ i, ∃ l : Int, (i < n → ps[i]? = some (.tuple [strAt "pqrs" i, .int l])) ∧ 1 ≤ l ∧ l ≤ 3 := fun i => by
    by_cases hi : i < n
    · obtain ⟨l, h1, h2⟩ := h.2 i hi
      exact ⟨l, fun _ => h1, h2⟩
    · exact ⟨1, fun k => absurd k hi, by decide, by decide⟩
  obtain ⟨a, ha, ka⟩ := H 0
  obtain ⟨b, hb, kb⟩ := H 1
  obtain ⟨c, hc, kc⟩ := H 2
  obtain ⟨d, hd, kd⟩ := H 3
  refine ⟨a, b, c, d, ?_, ka, kb, kc, kd⟩
  have hl := h.1
  apply List.ext_getElem?
  intro i
  by_cases hi : i < n
  · rw [List.getElem?_take_of_lt hi]
    match i with
    | 0 => exact ha hi
    | 1 => exact hb hi
    | 2 => exact hc hi
    | 3 => exact hd hi
    | i + 4 => omega
  · rw [List.getElem?_eq_none (by omega), List.getElem?_eq_none (by rw [List.length_take]; omega)]
end Fp

set_option Elab.async false
set_option linter.all false
set_option maxRecDepth 100000
set_option maxHeartbeats 1000000
/-! _law_bad -/
namespace Fp
open PySem L2
def GB (bs : List D) (n : Nat) : Prop := bs.length ≤ n ∧ ∀ b ∈ bs, Bad b
theorem GB_app {bs cs : List D} {n m : Nat} (h : GB bs n) (hl : cs.length = m) (h2 : ∀ b ∈ cs, Bad b) : GB (bs ++ cs) (n + m) := by
  refine ⟨by rw [List.length_append]; have := h.1; omega, fun b hb => ?_⟩
  rcases List.mem_append.mp hb with hb | hb
  · exact h.2 b hb
  · exact h2 b hb
theorem all_nil {P : D → Prop} : ∀ b ∈ ([] : List D), P b := fun _ h => nomatch h
theorem all_cons {P : D → Prop} {x : D} {xs : List D} (h : P x) (h2 : ∀ y ∈ xs, P y) : ∀ y ∈ x :: xs, P y := fun y hy => by
  rcases List.mem_cons.mp hy with rfl | hy
  · exact h
  · exact h2 y hy
/-- what the drawn net's parts are -/
structure NetP (p0 : D) (pr wi : List D) (wl wn : D) (row : List D) (a : Int) : Prop where
  ep : p0 = .tuple [.str "p", .int a]
  a1 : 1 ≤ a
  a2 : a ≤ 3
  pl : pr.length ≤ 3
  pt : ∀ x ∈ pr, Tm 2 x
  rv : arePipes (.tuple (repD (p0 :: pr).reverse 2)) = false
  zz : inD (.str "zz") ((p0 :: pr).map fstD) = false
  pp : inD (.str "p") ((p0 :: pr).map fstD) = true
  ew : wl = .tuple [wn, .tuple row]
  wil : wi.length ≤ 3
  wt : ∀ x ∈ wi, Tm 3 x
  wlt : Tm 3 wl
  wnt : Tm 2 wn
section
variable {p0 wl wn : D} {pr wi row : List D} {a : Int}
def nm : D := .str "p"
def list5 : List D := [.tuple [nm, .int 0], .tuple [nm, .int 5], .tuple [nm, .bool true], .tuple [nm, .str "1"], .tuple [nm]]
def list5b : List D := [.tuple [.str "", .int 1], .tuple [.str "P", .int 1], .tuple [.str "abcde", .int 1], .tuple [.int 7, .int 1], .list [nm, .int 1]]
def list8 : List D := [.tuple [], .tuple [nm, nm], .tuple [.str "zz"], .list [nm], .none, .tuple [.none], nm, .tuple [.str "p", .str "q", .str "r", .str "s", .str "t", .str "u"]]
theorem bad_net {x : D} {ws : List D} (h : arePipes (.tuple (x :: pr)) = false) (hx : Tm 3 x) (hpl : pr.length ≤ 3) (hpt : ∀ x ∈ pr, Tm 2 x) (hwl : ws.length ≤ 4) (hwt : ∀ x ∈ ws, Tm 3 x) : Bad (.tuple [.tuple (x :: pr), .tuple ws]) := by
  refine ⟨bad_pipes h, ?_⟩
  have : Tm (8 + 2) (.tuple [.tuple (x :: pr), .tuple ws]) := by
    apply Tm_tuple (by simp)
    refine all_cons ?_ (all_cons ?_ all_nil)
    · exact Tm_tuple (by simp; omega) (all_cons (Tm_mono hx (by decide)) (Tm_alls hpt (by decide)))
    · exact Tm_tuple (by omega) (Tm_alls hwt (by decide))
  exact this
theorem bad10 {ws : List D} (hpl : pr.length ≤ 3) (hpt : ∀ x ∈ pr, Tm 2 x) (hwl : ws.length ≤ 4) (hwt : ∀ x ∈ ws, Tm 3 x) : ∀ x ∈ list5 ++ list5b, Bad (.tuple [.tuple (x :: pr), .tuple ws]) := by
  have tt : ∀ x y : D, Tm 2 x → Tm 2 y → Tm 3 (.tuple [x, y]) := fun x y h1 h2 => Tm_tuple (by simp) (all_cons h1 (all_cons h2 all_nil))
  have hnm : Tm 2 nm := Tm_str (by decide)
  have t1 : Tm 2 (.str "1") := Tm_str (by decide)
  have t2 : Tm 2 (.str "") := Tm_str (by decide)
  have t3 : Tm 2 (.str "P") := Tm_str (by decide)
  have t4 : Tm 2 (.str "abcde") := Tm_str (by decide)
  refine all_cons (bad_net (bad_whole (by decide +kernel)) (tt _ _ hnm Tm_int) hpl hpt hwl hwt) ?_
  refine all_cons (bad_net (bad_whole (by decide +kernel)) (tt _ _ hnm Tm_int) hpl hpt hwl hwt) ?_
  refine all_cons (bad_net (bad_whole (by decide +kernel)) (tt _ _ hnm Tm_bool) hpl hpt hwl hwt) ?_
  refine all_cons (bad_net (bad_whole (by decide +kernel)) (tt _ _ hnm t1) hpl hpt hwl hwt) ?_
  refine all_cons (bad_net (bad_pair (by decide +kernel)) (Tm_tuple (by simp) (all_cons hnm all_nil)) hpl hpt hwl hwt) ?_
  refine all_cons (bad_net (bad_pair (by decide +kernel)) (tt _ _ t2 Tm_int) hpl hpt hwl hwt) ?_
  refine all_cons (bad_net (bad_pair (by decide +kernel)) (tt _ _ t3 Tm_int) hpl hpt hwl hwt) ?_
  refine all_cons (bad_net (bad_pair (by decide +kernel)) (tt _ _ t4 Tm_int) hpl hpt hwl hwt) ?_
  refine all_cons (bad_net (bad_pair (by decide +kernel)) (tt _ _ Tm_int Tm_int) hpl hpt hwl hwt) ?_
  exact all_cons (bad_net (bad_pair (by decide +kernel)) (Tm_list (by simp) (all_cons hnm (all_cons Tm_int all_nil))) hpl hpt hwl hwt) all_nil
theorem bad8 (h : NetP p0 pr wi wl wn row a) : ∀ x ∈ list8, Bad (.tuple [.tuple (p0 :: pr), .tuple (wi ++ [.tuple [wn, x]])]) := by
  have key : ∀ x : D, isRow ((p0 :: pr).map fstD) x = false → Tm 2 x → Bad (.tuple [.tuple (p0 :: pr), .tuple (wi ++ [.tuple [wn, x]])]) := fun x hx ht => by
    refine ⟨bad_way (w := .tuple [wn, x]) (by simp) (bad_row hx), ?_⟩
    have hp0 : Tm 2 p0 := by
      rw [h.ep]
      exact Tm_tuple (by simp) (all_cons (Tm_str (by decide)) (all_cons Tm_int all_nil))
    have : Tm (8 + 2) (.tuple [.tuple (p0 :: pr), .tuple (wi ++ [.tuple [wn, x]])]) := by
      apply Tm_tuple (by simp)
      refine all_cons ?_ (all_cons ?_ all_nil)
      · exact Tm_tuple (by have := h.pl; simp; omega) (all_cons (Tm_mono hp0 (by decide)) (Tm_alls h.pt (by decide)))
      · refine Tm_tuple (by have := h.wil; simp; omega) (Tm_app (Tm_alls h.wt (by decide)) (all_cons ?_ all_nil))
        exact Tm_tuple (by simp) (all_cons (Tm_mono h.wnt (by decide)) (all_cons (Tm_mono ht (by decide)) all_nil))
    exact this
  have hnm : Tm 1 nm := Tm_str (by decide)
  generalize hns : (p0 :: pr).map fstD = ns at key
  have hz := h.zz
  rw [hns] at hz
  refine all_cons (key _ rfl (Tm_tuple (by simp) all_nil)) ?_
  refine all_cons (key _ ?_ (Tm_tuple (by simp) (all_cons hnm (all_cons hnm all_nil)))) ?_
  · have e : inD nm [nm] = true := by decide +kernel
    simp only [isRow, rowGo, List.take_zero, List.take_succ_cons, e]
    simp
  refine all_cons (key _ ?_ (Tm_tuple (by simp) (all_cons (Tm_str (by decide)) all_nil))) ?_
  · simp only [isRow, rowGo, hz]
    simp
  refine all_cons (key _ rfl (Tm_list (by simp) (all_cons hnm all_nil))) ?_
  refine all_cons (key _ rfl Tm_none) ?_
  refine all_cons (key _ ?_ (Tm_tuple (by simp) (all_cons Tm_none all_nil))) ?_
  · simp [isRow, rowGo, isName]
  refine all_cons (key _ rfl (Tm_mono hnm (by decide))) ?_
  refine all_cons (key _ ?_ (Tm_tuple (by simp) (all_cons (Tm_str (by decide)) (all_cons (Tm_str (by decide)) (all_cons (Tm_str (by decide)) (all_cons (Tm_str (by decide)) (all_cons (Tm_str (by decide)) (all_cons (Tm_str (by decide)) all_nil)))))))) all_nil
  simp [isRow]
theorem two {P : D → Prop} {x y : D} (h : P x) (h2 : P y) : ∀ z ∈ [x, y], P z := all_cons h (all_cons h2 all_nil)
theorem bad_more (h : NetP p0 pr wi wl wn row a) :
    (∀ b ∈ [PyData.none, .tuple [], .tuple [.tuple (p0 :: pr)], .tuple [.tuple (p0 :: pr), .tuple (wi ++ [wl]), .int 0], .list [.tuple (p0 :: pr), .tuple (wi ++ [wl])], .tuple [.list (p0 :: pr), .tuple (wi ++ [wl])]], Bad b) ∧
    (∀ b ∈ [PyData.tuple [.tuple (p0 :: pr), .list (wi ++ [wl])], .tuple [.tuple [], .tuple (wi ++ [wl])], .tuple [.tuple (p0 :: pr), .tuple []], .tuple [.tuple (repD (p0 :: pr).reverse 2), .tuple (wi ++ [wl])]], Bad b) ∧
    (∀ ws : List D, ws.length ≤ 9 → (∀ x ∈ ws, Tm 3 x) → isNet (.tuple [.tuple (p0 :: pr), .tuple ws]) = false → Bad (.tuple [.tuple (p0 :: pr), .tuple ws])) := by
  have hp0 : Tm 2 p0 := by
    rw [h.ep]
    exact Tm_tuple (by simp) (two (Tm_str (by decide)) Tm_int)
  have hpl := h.pl
  have hwl := h.wil
  have hpp : ∀ x ∈ p0 :: pr, Tm 2 x := all_cons hp0 h.pt
  have hww : ∀ x ∈ wi ++ [wl], Tm 3 x := Tm_app h.wt (all_cons h.wlt all_nil)
  have hP : Tm 4 (.tuple (p0 :: pr)) := Tm_tuple (by simp; omega) (Tm_alls hpp (by decide))
  have hW : Tm 4 (.tuple (wi ++ [wl])) := Tm_tuple (by simp; omega) hww
  have hPl : Tm 4 (.list (p0 :: pr)) := Tm_list (by simp; omega) (Tm_alls hpp (by decide))
  have hWl : Tm 4 (.list (wi ++ [wl])) := Tm_list (by simp; omega) hww
  have up : ∀ {d : D}, Tm 5 d → Tm 10 d := fun h => Tm_mono h (by decide)
  refine ⟨?_, ?_, ?_⟩
  · refine all_cons ⟨rfl, Tm_none⟩ (all_cons ⟨rfl, up (Tm_tuple (by simp) all_nil)⟩ (all_cons ⟨?_, up (Tm_tuple (by simp) (all_cons hP all_nil))⟩ (all_cons ⟨?_, up (Tm_tuple (by simp) (all_cons hP (two hW Tm_int)))⟩ (two ⟨rfl, up (Tm_list (by simp) (two hP hW))⟩ ⟨?_, up (Tm_tuple (by simp) (two hPl hW))⟩))))
    all_goals
      unfold isNet
      split
      · rename_i he; simp at he
      · rfl
  · refine all_cons ⟨?_, up (Tm_tuple (by simp) (two hP hWl))⟩ (all_cons ⟨bad_pipes (by rfl), up (Tm_tuple (by simp) (two (Tm_tuple (by simp) all_nil) hW))⟩ (two ⟨bad_wlen (by rfl), up (Tm_tuple (by simp) (two hP (Tm_tuple (by simp) all_nil)))⟩ ⟨bad_pipes h.rv, up (Tm_tuple (by simp) (two (Tm_tuple ?_ ?_) hW))⟩))
    · unfold isNet
      split
      · rename_i he; simp at he
      · rfl
    · simp [repD]
      omega
    · intro x hx
      have : x ∈ (p0 :: pr) := by
        unfold repD at hx
        obtain ⟨l, hl, hx⟩ := List.mem_flatten.mp hx
        rw [List.eq_of_mem_replicate hl] at hx
        exact List.mem_reverse.mp hx
      exact Tm_mono (hpp x this) (by decide)
  · intro ws hl ht hn
    exact ⟨hn, up (Tm_tuple (by simp) (two hP (Tm_tuple (by omega) ht)))⟩
end
end Fp

set_option Elab.async false
set_option linter.all false
set_option maxRecDepth 100000
set_option maxHeartbeats 1000000
/-! _law_bad, walked -/
namespace Fp
open PySem L2
theorem add_L {xs ys : List D} (h : xs.length + ys.length ≤ 16777216) : dBin .add (.list xs) (.list ys) = .ok (.list (xs ++ ys)) := by rw [dBin, dAdd, if_pos h]
theorem add_T {xs ys : List D} (h : xs.length + ys.length ≤ 16777216) : dBin .add (.tuple xs) (.tuple ys) = .ok (.tuple (xs ++ ys)) := by rw [dBin, dAdd, if_pos h]
theorem mul_T {xs : List D} (h : xs.length ≤ 1000) (h2 : xs.isEmpty = false) : dBin .mul (.tuple xs) (.int 2) = .ok (.tuple (repD xs 2)) := by
  rw [dBin, dMul, if_pos]
  rw [h2, decide_eq_true h]
  rfl
section
variable {p0 wl wn : D} {pr wi row : List D} {a : Int}
def badB6 : Ss := .cons (.app 5 (.tup (.cons (.bin .add (.tup (.cons (.slot 7) .nil)) (.sli (.slot 1) (.som (.cst (.int 1))) .non)) (.cons (.slot 2) .nil)))) .nil
def badB7 : Ss := .cons (.app 5 (.tup (.cons (.slot 1) (.cons (.bin .add (.sli (.slot 2) .non (.som (.neg (.cst (.int 1))))) (.tup (.cons (.tup (.cons (.idx (.idx (.slot 2) (.neg (.cst (.int 1)))) (.cst (.int 0))) (.cons (.slot 8) .nil))) .nil))) .nil)))) .nil
def bE (ps ws : List D) (bs : List D) (s6 s7 s8 : Slot) : Env := [.val (.tuple [.tuple ps, .tuple ws]), .val (.tuple ps), .val (.tuple ws), .val nm, .val (.int 1), .own (.list bs), s6, s7, s8, .un]
def bE' (a : Int) (ps ws : List D) (bs : List D) (s6 s7 s8 : Slot) : Env := [.val (.tuple [.tuple ps, .tuple ws]), .val (.tuple ps), .val (.tuple ws), .val nm, .val (.int a), .own (.list bs), s6, s7, s8, .un]
theorem bad_l6 (h : NetP p0 pr wi wl wn row a) (n : Nat) (hn : n < 1000) (x : D) (hx : x ∈ list5 ++ list5b) (bs : List D) (hb : GB bs n) (s6 s7 s8 : Slot) :
    ∃ bs', forF (.nm 7) badB6 x (bE' a (p0 :: pr) (wi ++ [wl]) bs s6 s7 s8) = .nx (bE' a (p0 :: pr) (wi ++ [wl]) bs' s6 (.val x) s8) ∧ GB bs' (n + 1) := by
  have ha : forF (.nm 7) badB6 x (bE' a (p0 :: pr) (wi ++ [wl]) bs s6 s7 s8) = exSs badB6 (bE' a (p0 :: pr) (wi ++ [wl]) bs s6 (.val x) s8) := rfl
  have hpl := h.pl
  have hwl := h.wil
  rw [ha]
  unfold badB6
  have e : evE (.tup (.cons (.bin .add (.tup (.cons (.slot 7) .nil)) (.sli (.slot 1) (.som (.cst (.int 1))) .non)) (.cons (.slot 2) .nil))) (bE' a (p0 :: pr) (wi ++ [wl]) bs s6 (.val x) s8) = .ok (.tuple [.tuple (x :: pr), .tuple (wi ++ [wl])]) :=
    ev_tup (evs_cons (ev_bin' (ev_tup (evs1 (ev_slot rfl)) (by simp)) (ev_sli' (ev_slot rfl) (evo_som ev_cst) evo_non (by rw [dSli, cut_one])) (add_T (xs := [x]) (by simp; omega))) (evs1 (ev_slot rfl))) (by simp)
  rw [ex_app rfl e (by have := hb.1; omega), ex_nil]
  refine ⟨_, rfl, GB_app hb rfl (all_cons ?_ all_nil)⟩
  exact bad10 h.pl h.pt (by simp; omega) (Tm_app h.wt (all_cons h.wlt all_nil)) x hx
theorem bad_l7 (h : NetP p0 pr wi wl wn row a) (n : Nat) (hn : n < 1000) (x : D) (hx : x ∈ list8) (bs : List D) (hb : GB bs n) (s6 s7 s8 : Slot) :
    ∃ bs', forF (.nm 8) badB7 x (bE' a (p0 :: pr) (wi ++ [wl]) bs s6 s7 s8) = .nx (bE' a (p0 :: pr) (wi ++ [wl]) bs' s6 s7 (.val x)) ∧ GB bs' (n + 1) := by
  have ha : forF (.nm 8) badB7 x (bE' a (p0 :: pr) (wi ++ [wl]) bs s6 s7 s8) = exSs badB7 (bE' a (p0 :: pr) (wi ++ [wl]) bs s6 s7 (.val x)) := rfl
  have hwl := h.wil
  rw [ha]
  unfold badB7
  have e : evE (.tup (.cons (.slot 1) (.cons (.bin .add (.sli (.slot 2) .non (.som (.neg (.cst (.int 1))))) (.tup (.cons (.tup (.cons (.idx (.idx (.slot 2) (.neg (.cst (.int 1)))) (.cst (.int 0))) (.cons (.slot 8) .nil))) .nil))) .nil))) (bE' a (p0 :: pr) (wi ++ [wl]) bs s6 s7 (.val x)) = .ok (.tuple [.tuple (p0 :: pr), .tuple (wi ++ [.tuple [wn, x]])]) :=
    ev_tup (evs_cons (ev_slot rfl) (evs1 (ev_bin' (ev_sli' (ev_slot rfl) evo_non (evo_som (ev_neg ev_cst)) (by rw [dSli, cut_last])) (ev_tup (evs1 (ev_tup (evs_cons (ev_idx' (ev_idx' (ev_slot rfl) (ev_neg ev_cst) (idx_last wi wl)) ev_cst (by rw [h.ew]; exact dIdxT0)) (evs1 (ev_slot rfl))) (by simp))) (by simp)) (add_T (by simp; omega))))) (by simp)
  rw [ex_app rfl e (by have := hb.1; omega), ex_nil]
  exact ⟨_, rfl, GB_app hb rfl (all_cons (bad8 h x hx) all_nil)⟩
def GoodB (x : R D) : Prop := ∃ bs, x = R.ok (.list bs) ∧ ∀ b ∈ bs, Bad b
theorem GoodB_eq {x y : Fl} (h : x = y) (k : GoodB y.out) : GoodB x.out := by rw [h]; exact k
theorem tuple_str {z : Str} (h : z.length ≤ 16777216) : dBlt .tuple [.str z] = .ok (.tuple (z.cps.toList.map fun c => .str ⟨#[c]⟩)) := by rw [dBlt, if_pos (by simpa using h)]
theorem own_add {i : Nat} {es : Es} {ds bs : List D} {env : Env} {r : Ss} (he : evEs es env = .ok ds) (hi : env[i]? = some (.own (.list bs))) (h1 : bs.length ≤ 1000) (h2 : ds.length ≤ 1000) :
    exSs (.cons (.own i (.bin .add (.bor i) (.lst es))) r) env = exSs r (env.set i (.own (.list (bs ++ ds)))) :=
  ex_own (ev_bin' (ev_boro hi) (ev_lst he (by omega)) (add_L (by omega))) (List.getElem?_eq_some_iff.mp hi).1
theorem isNet_of_wris {ps ws : List D} (h : risD (ws.map fstD) = false) : isNet (.tuple [.tuple ps, .tuple ws]) = false := bad_wris h
theorem bad_ok (h : NetP p0 pr wi wl wn row a) : GoodB (runF 1 10 B__law_bad [.tuple [.tuple (p0 :: pr), .tuple (wi ++ [wl])]]) := by
  have hpl := h.pl
  have hwl := h.wil
  obtain ⟨m1, m2, m3⟩ := bad_more h
  rw [run1 (np := 1) rfl]
  unfold B__law_bad
  show GoodB (exSs _ [.val (.tuple [.tuple (p0 :: pr), .tuple (wi ++ [wl])]), .un, .un, .un, .un, .un, .un, .un, .un, .un]).out
  rw [ex_asnT (env' := [.val (.tuple [.tuple (p0 :: pr), .tuple (wi ++ [wl])]), .val (.tuple (p0 :: pr)), .val (.tuple (wi ++ [wl])), .un, .un, .un, .un, .un, .un, .un]) (ev_slot rfl) rfl]
  rw [ex_asnT (env' := [.val (.tuple [.tuple (p0 :: pr), .tuple (wi ++ [wl])]), .val (.tuple (p0 :: pr)), .val (.tuple (wi ++ [wl])), .val nm, .val (.int a), .un, .un, .un, .un, .un]) (ev_idx' (ev_slot rfl) ev_cst dIdxT0) (by rw [h.ep]; rfl)]
  have e3 : evE (.lst (.cons (.cst .none) (.cons (.tup .nil) (.cons (.tup (.cons (.slot 1) .nil)) (.cons (.bin .add (.slot 0) (.tup (.cons (.cst (.int 0)) .nil))) (.cons (.blt .list (.cons (.slot 0) .nil)) (.cons (.tup (.cons (.blt .list (.cons (.slot 1) .nil)) (.cons (.slot 2) .nil))) .nil)))))))
      [.val (.tuple [.tuple (p0 :: pr), .tuple (wi ++ [wl])]), .val (.tuple (p0 :: pr)), .val (.tuple (wi ++ [wl])), .val nm, .val (.int a), .un, .un, .un, .un, .un] = .ok (.list [PyData.none, .tuple [], .tuple [.tuple (p0 :: pr)], .tuple [.tuple (p0 :: pr), .tuple (wi ++ [wl]), .int 0], .list [.tuple (p0 :: pr), .tuple (wi ++ [wl])], .tuple [.list (p0 :: pr), .tuple (wi ++ [wl])]]) :=

    ev_lst (evs_cons ev_cst (evs_cons (ev_tup evs_nil (by simp)) (evs_cons (ev_tup (evs1 (ev_slot rfl)) (by simp)) (evs_cons (ev_bin' (ev_slot rfl) (ev_tup (evs1 ev_cst) (by simp)) (add_T (by simp))) (evs_cons (ev_blt' (evs1 (ev_slot rfl)) rfl) (evs1 (ev_tup (evs_cons (ev_blt' (evs1 (ev_slot rfl)) rfl) (evs1 (ev_slot rfl))) (by simp)))))))) (by simp)
  rw [ex_own e3 (by simp)]
  have g1 : GB _ 6 := ⟨Nat.le_refl _, m1⟩
  revert g1
  generalize [PyData.none, .tuple [], .tuple [.tuple (p0 :: pr)], .tuple [.tuple (p0 :: pr), .tuple (wi ++ [wl]), .int 0], .list [.tuple (p0 :: pr), .tuple (wi ++ [wl])], .tuple [.list (p0 :: pr), .tuple (wi ++ [wl])]] = bs1
  intro g1
  show GoodB (exSs _ (bE' a (p0 :: pr) (wi ++ [wl]) bs1 .un .un .un)).out
  rw [own_add (ds := [.tuple [.tuple (p0 :: pr), .list (wi ++ [wl])], .tuple [.tuple [], .tuple (wi ++ [wl])], .tuple [.tuple (p0 :: pr), .tuple []], .tuple [.tuple (repD (p0 :: pr).reverse 2), .tuple (wi ++ [wl])]])
    (evs_cons (ev_tup (evs_cons (ev_slot rfl) (evs1 (ev_blt' (evs1 (ev_slot rfl)) rfl))) (by simp)) (evs_cons (ev_tup (evs_cons (ev_tup evs_nil (by simp)) (evs1 (ev_slot rfl))) (by simp)) (evs_cons (ev_tup (evs_cons (ev_slot rfl) (evs1 (ev_tup evs_nil (by simp)))) (by simp)) (evs1 (ev_tup (evs_cons (ev_bin' (ev_rev' (ev_slot rfl) rfl) ev_cst (mul_T (by simp; omega) (by simp))) (evs1 (ev_slot rfl))) (by simp))))))
    rfl (by have := g1.1; omega) (by simp)]
  have g2 := GB_app g1 rfl m2
  revert g2
  generalize bs1 ++ _ = bs2
  intro g2
  show GoodB (exSs _ (bE' a (p0 :: pr) (wi ++ [wl]) bs2 .un .un .un)).out
  rw [ex_asn (x := .list list5) (ev_lst (evs_cons (ev_tup (evs_cons (ev_slot rfl) (evs1 ev_cst)) (by simp)) (evs_cons (ev_tup (evs_cons (ev_slot rfl) (evs1 ev_cst)) (by simp)) (evs_cons (ev_tup (evs_cons (ev_slot rfl) (evs1 ev_cst)) (by simp)) (evs_cons (ev_tup (evs_cons (ev_slot rfl) (evs1 ev_cst)) (by simp)) (evs1 (ev_tup (evs1 (ev_slot rfl)) (by simp))))))) (by decide)) (by simp [bE'])]
  show GoodB (exSs _ (bE' a (p0 :: pr) (wi ++ [wl]) bs2 (.val (.list list5)) .un .un)).out
  obtain ⟨env', e6, bs3, s7, rfl, g3⟩ := for_inv (f := forF (.nm 7) badB6) (P := fun i env => ∃ bs s7, env = bE' a (p0 :: pr) (wi ++ [wl]) bs (.val (.list list5)) s7 .un ∧ GB bs (10 + i)) (xs := list5 ++ list5b) (n := 0) (env := bE' a (p0 :: pr) (wi ++ [wl]) bs2 (.val (.list list5)) .un .un)
    ⟨_, _, rfl, g2⟩ fun i x hx env he => by
      obtain ⟨bs, s7, rfl, hb⟩ := he
      have hi : i < 10 := (List.getElem?_eq_some_iff.mp hx).1
      obtain ⟨bs', e, hb'⟩ := bad_l6 h (10 + (0 + i)) (by omega) x (List.mem_of_getElem? hx) bs hb (.val (.list list5)) s7 .un
      exact ⟨_, e, _, _, rfl, hb'⟩
  refine GoodB_eq (ex_for (xs := list5 ++ list5b) (it_dat (ev_bin' (y := .list list5b) (ev_slot rfl) (ev_lst (evs_cons (ev_tup (evs_cons ev_cst (evs1 ev_cst)) (by simp)) (evs_cons (ev_tup (evs_cons ev_cst (evs1 ev_cst)) (by simp)) (evs_cons (ev_tup (evs_cons ev_cst (evs1 ev_cst)) (by simp)) (evs_cons (ev_tup (evs_cons ev_cst (evs1 ev_cst)) (by simp)) (evs1 (ev_lst (evs_cons (ev_slot rfl) (evs1 ev_cst)) (by simp))))))) (by decide)) (add_L (by decide))) rfl) e6) ?_
  obtain ⟨env', e7, bs4, s8, rfl, g4⟩ := for_inv (f := forF (.nm 8) badB7) (P := fun i env => ∃ bs s8, env = bE' a (p0 :: pr) (wi ++ [wl]) bs (.val (.list list5)) s7 s8 ∧ GB bs (20 + i)) (xs := list8) (n := 0) (env := bE' a (p0 :: pr) (wi ++ [wl]) bs3 (.val (.list list5)) s7 .un)
    ⟨_, _, rfl, g3⟩ fun i x hx env he => by
      obtain ⟨bs, s8, rfl, hb⟩ := he
      have hi : i < 8 := (List.getElem?_eq_some_iff.mp hx).1
      obtain ⟨bs', e, hb'⟩ := bad_l7 h (20 + (0 + i)) (by omega) x (List.mem_of_getElem? hx) bs hb (.val (.list list5)) s7 s8
      exact ⟨_, e, _, _, rfl, hb'⟩
  have g4 : GB bs4 28 := g4
  have ept : evE (.blt .tuple (.cons (.cst (.str "pqrstu")) .nil)) (bE' a (p0 :: pr) (wi ++ [wl]) bs3 (.val (.list list5)) s7 .un) = .ok (.tuple [.str "p", .str "q", .str "r", .str "s", .str "t", .str "u"]) :=
    ok_of (ev_blt' (evs1 ev_cst) (tuple_str (by decide))) (by rfl)
  refine GoodB_eq (ex_for (xs := list8) (it_dat (ev_tup (evs_cons (ev_tup evs_nil (by simp)) (evs_cons (ev_tup (evs_cons (ev_slot rfl) (evs1 (ev_slot rfl))) (by simp)) (evs_cons (ev_tup (evs1 ev_cst) (by simp)) (evs_cons (ev_lst (evs1 (ev_slot rfl)) (by simp)) (evs_cons ev_cst (evs_cons (ev_tup (evs1 ev_cst) (by simp)) (evs_cons (ev_slot rfl) (evs1 ept)))))))) (by simp)) rfl) e7) ?_
  have way : ∀ (x : D) env, env[3]? = some (.val nm) → evE (.tup (.cons (.cst x) (.cons (.tup (.cons (.slot 3) .nil)) .nil))) env = .ok (.tuple [x, .tuple [nm]]) := fun x env he =>
    ev_tup (evs_cons ev_cst (evs1 (ev_tup (evs1 (ev_slot he)) (by simp)))) (by simp)
  rw [own_add (ds := [.tuple [.tuple (p0 :: pr), .tuple [.tuple [.str "a", .tuple [nm]], .tuple [.str "a", .tuple [nm]]]]])
    (evs1 (ev_tup (evs_cons (ev_slot rfl) (evs1 (ev_tup (evs_cons (way _ _ rfl) (evs1 (way _ _ rfl))) (by simp)))) (by simp))) rfl (by have := g4.1; omega) (by simp)]
  have g5 := GB_app (m := 1) g4 rfl (all_cons (m3 [.tuple [.str "a", .tuple [nm]], .tuple [.str "a", .tuple [nm]]] (by decide) (by unfold Tm; decide +kernel) (bad_wris (by decide +kernel))) all_nil)
  revert g5
  generalize bs4 ++ _ = bs5
  intro g5
  show GoodB (exSs _ (bE' a (p0 :: pr) (wi ++ [wl]) bs5 (.val (.list list5)) s7 s8)).out
  rw [own_add (ds := [.tuple [.tuple (p0 :: pr), .tuple [.tuple [.str "b", .tuple [nm]], .tuple [.str "a", .tuple [nm]]]], .tuple [.tuple (p0 :: pr), .tuple [.tuple [.str "A", .tuple [nm]]]]])
    (evs_cons (ev_tup (evs_cons (ev_slot rfl) (evs1 (ev_tup (evs_cons (way _ _ rfl) (evs1 (way _ _ rfl))) (by simp)))) (by simp)) (evs1 (ev_tup (evs_cons (ev_slot rfl) (evs1 (ev_tup (evs1 (way _ _ rfl)) (by simp)))) (by simp)))) rfl (by have := g5.1; omega) (by simp)]
  have g6 := GB_app (m := 2) g5 rfl (two (m3 [.tuple [.str "b", .tuple [nm]], .tuple [.str "a", .tuple [nm]]] (by decide) (by unfold Tm; decide +kernel) (bad_wris (by decide +kernel)))
    (m3 [.tuple [.str "A", .tuple [nm]]] (by decide) (by unfold Tm; decide +kernel) (bad_way (w := .tuple [.str "A", .tuple [nm]]) (by simp) (by
      have : isPair (.tuple [.str "A", .tuple [nm]]) = false := by decide +kernel
      rw [this]; rfl))))
  revert g6
  generalize bs5 ++ _ = bs6
  intro g6
  show GoodB (exSs _ (bE' a (p0 :: pr) (wi ++ [wl]) bs6 (.val (.list list5)) s7 s8)).out
  have hs9 : ∀ (z : Str) (c : D), z.length ≤ 100 → ∀ f : E, (∀ x env, env[3]? = some (.val nm) → env[9]? = some (.val x) → evE f env = .ok c) → ∀ bs, evE (.blt .tuple (.cons (.lc [9] (.nm 9) (.dat (.cst (.str z))) .nil (.tup (.cons (.slot 9) (.cons f .nil)))) .nil)) (bE' a (p0 :: pr) (wi ++ [wl]) bs (.val (.list list5)) s7 s8) =
      .ok (.tuple ((z.cps.toList.map fun c => PyData.str ⟨#[c]⟩).map fun x => .tuple [x, c])) := fun z c hz f hf bs => by
    refine ev_blt' (evs1 (ev_lc (g := fun x => .tuple [x, c]) (it_dat ev_cst rfl) ?_ fun x hx => ⟨_, rfl, ev_tup (evs_cons (ev_slot rfl) (evs1 (hf x _ rfl rfl))) (by simp)⟩)) rfl
    have : z.cps.toList.length = z.length := by simp [Str.length]
    rw [List.length_map]
    omega
  rw [ex_app rfl (ev_tup (evs_cons (ev_slot rfl) (evs1 (hs9 "abcdefghi" (.tuple [nm]) (by decide) _ (fun x env h1 _ => ev_tup (evs1 (ev_slot h1)) (by simp)) bs6))) (by simp)) (by have := g6.1; omega)]
  have g7 := GB_app (m := 1) g6 rfl (all_cons (m3 ((("abcdefghi" : Str).cps.toList.map fun c => PyData.str ⟨#[c]⟩).map fun x => .tuple [x, .tuple [nm]]) (by decide +kernel) (by unfold Tm; decide +kernel) (bad_wlen (by decide +kernel))) all_nil)
  revert g7
  generalize bs6 ++ _ = bs7
  intro g7
  show GoodB (exSs _ (bE' a (p0 :: pr) (wi ++ [wl]) bs7 (.val (.list list5)) s7 s8)).out
  rw [ret1, ev_bin' (ev_boro rfl) (ev_lst (evs1 (ev_tup (evs_cons (hs9 "abcdefg" (.int 1) (by decide) _ (fun x env h1 _ => ev_cst) bs7) (evs1 (ev_tup (evs1 (ev_tup (evs_cons ev_cst (evs1 (ev_tup (evs1 ev_cst) (by simp)))) (by simp))) (by simp)))) (by simp))) (by simp)) (add_L (by have := g7.1; simp; omega))]
  exact ⟨_, rfl, (GB_app (m := 1) g7 rfl (all_cons (by unfold Bad Tm; decide +kernel) all_nil)).2⟩
end
end Fp

set_option Elab.async false
set_option linter.all false
set_option maxRecDepth 100000
set_option maxHeartbeats 1000000
/-! What the drawn nets and states are. -/
namespace Fp
open PySem L2
theorem eqv_name {x y : D} (hx : isName x = true) (hy : isName y = true) : PyData.eqv x y = true ↔ x = y := by
  cases x <;> first | (cases hx; done) | skip
  cases y <;> first | (cases hy; done) | skip
  rename_i a b
  have : PyData.eqv (.str a) (.str b) = decide (a = b) := rfl
  rw [this, decide_eq_true_eq]
  exact ⟨fun h => by rw [h], fun h => by cases h; rfl⟩
theorem inD_true {x : D} {xs : List D} (hx : isName x = true) (h : x ∈ xs) : inD x xs = true := List.any_eq_true.mpr ⟨x, h, (eqv_name hx hx).mpr rfl⟩
theorem inD_false {x : D} {xs : List D} (hx : isName x = true) (hs : ∀ y ∈ xs, isName y = true) (h : x ∉ xs) : inD x xs = false := by
  unfold inD
  rw [List.any_eq_false]
  intro y hy e
  have := (eqv_name (hs y hy) hx).mp e
  subst this
  exact h hy
theorem rowGo_ok {ns xs : List D} (hn : ∀ y ∈ ns, isName y = true) (hx : ∀ y ∈ xs, y ∈ ns) (hd : xs.Nodup) : ∀ (l : List D) (n : Nat), xs.drop n = l → rowGo ns xs n l = true
  | [], _, _ => rfl
  | x :: l, n, e => by
    have hm : x ∈ xs := by
      have : x ∈ xs.drop n := by rw [e]; exact List.mem_cons_self
      exact List.mem_of_mem_drop this
    have ih := rowGo_ok hn hx hd l (n + 1) (by rw [← List.drop_drop, e]; rfl)
    have hnt : x ∉ xs.take n := fun ht => by
      have h1 : (xs.take n ++ xs.drop n).Nodup := by rw [List.take_append_drop]; exact hd
      have h2 := (List.nodup_append.mp h1).2.2 x ht x (by rw [e]; exact List.mem_cons_self)
      exact h2 rfl
    rw [rowGo, hn x (hx x hm), inD_true (hn x (hx x hm)) (hx x hm), inD_false (hn x (hx x hm)) (fun y hy => hn y (hx y (List.mem_of_mem_take hy))) hnt, ih]
    rfl
theorem strAt_name4 : ∀ i, i < 4 → isName (strAt "pqrs" i) = true := by decide +kernel
theorem strAt_name4w : ∀ i, i < 4 → isName (strAt "abcd" i) = true := by decide +kernel
theorem GP_names {ps : List D} {n : Nat} (h : GP ps n) (hn : n ≤ 4) : ∀ y ∈ ps.map fstD, isName y = true := fun y hy => by
  obtain ⟨p, hp, rfl⟩ := List.mem_map.mp hy
  obtain ⟨i, l, hi, rfl, _⟩ := GP_mem h hp
  exact strAt_name4 i (by omega)
theorem GP_map {ps : List D} {n : Nat} (h : GP ps n) : ps.map fstD = (List.range n).map (strAt "pqrs") := by
  apply List.ext_getElem?
  intro i
  by_cases hi : i < n
  · rw [GP_fst h hi, List.getElem?_map, List.getElem?_range hi]; rfl
  · rw [List.getElem?_eq_none (by rw [List.length_map]; have := h.1; omega), List.getElem?_eq_none (by simp; omega)]
theorem GW_map {ns ws : List D} {n : Nat} (h : GW ns ws n) : ws.map fstD = (List.range n).map (strAt "abcd") := by
  apply List.ext_getElem?
  intro i
  by_cases hi : i < n
  · obtain ⟨row, h1, _⟩ := h.2 i hi
    rw [List.getElem?_map, h1, List.getElem?_map, List.getElem?_range hi]; rfl
  · rw [List.getElem?_eq_none (by rw [List.length_map]; have := h.1; omega), List.getElem?_eq_none (by simp; omega)]
theorem ris_range : (∀ n, n < 5 → risD ((List.range n).map (strAt "pqrs")) = true) ∧ ∀ n, n < 5 → risD ((List.range n).map (strAt "abcd")) = true := by decide +kernel
theorem GP_pipes {ps : List D} {n : Nat} (h : GP ps n) (h1 : 1 ≤ n) (h4 : n ≤ 4) : arePipes (.tuple ps) = true := by
  have hl := h.1
  have e1 : ps.all isPair = true := List.all_eq_true.mpr fun p hp => by
    obtain ⟨i, l, hi, rfl, _⟩ := GP_mem h hp
    exact strAt_name4 i (by omega)
  have e2 : (ps.all fun p => isWhole (sndD p) 1 4) = true := List.all_eq_true.mpr fun p hp => by
    obtain ⟨i, l, hi, rfl, h2, h3⟩ := GP_mem h hp
    simp [isWhole, sndD, PyData.isInt, PyData.isBool]
    omega
  rw [arePipes, e1, e2, GP_map h, ris_range.1 n (by omega), decide_eq_true (show 1 ≤ ps.length by omega), decide_eq_true (show ps.length ≤ 6 by omega)]
  rfl
theorem GR_row {ns row : List D} (h : GR ns row) (hn : ∀ y ∈ ns, isName y = true) : isRow ns (.tuple row) = true := by
  obtain ⟨h1, h2, h3, h4⟩ := h
  rw [isRow, rowGo_ok hn h3 h4 row 0 rfl, decide_eq_true h1, decide_eq_true (by omega)]
  rfl
theorem GW_mem {ns ws : List D} {n : Nat} (h : GW ns ws n) {w : D} (hw : w ∈ ws) : ∃ i row, i < n ∧ w = .tuple [strAt "abcd" i, .tuple row] ∧ GR ns row := by
  obtain ⟨i, hi, rfl⟩ := List.mem_iff_getElem.mp hw
  have hl := h.1
  obtain ⟨row, h1, h2⟩ := h.2 i (by omega)
  rw [List.getElem?_eq_getElem hi] at h1
  exact ⟨i, row, by omega, Option.some.inj h1, h2⟩
theorem GNet_is {ps ws : List D} {n m : Nat} (h : GP ps n) (k : GW (ps.map fstD) ws m) (h1 : 1 ≤ n) (h4 : n ≤ 4) (k1 : 1 ≤ m) (k4 : m ≤ 4) : isNet (.tuple [.tuple ps, .tuple ws]) = true := by
  have hl := k.1
  have e1 : (ws.all fun w => isPair w && isRow (ps.map fstD) (sndD w)) = true := List.all_eq_true.mpr fun w hw => by
    obtain ⟨i, row, hi, rfl, hr⟩ := GW_mem k hw
    rw [Bool.and_eq_true]
    exact ⟨strAt_name4w i (by omega), GR_row hr (GP_names h h4)⟩
  rw [isNet, GP_pipes h h1 h4, e1, GW_map k, ris_range.2 m (by omega), decide_eq_true (show 1 ≤ ws.length by omega), decide_eq_true (show ws.length ≤ 8 by omega)]
  rfl
theorem Tm_name {x : D} (h : isName x = true) (k : Nat) : Tm k x := by
  cases x <;> first | (cases h; done) | skip
  rename_i z
  refine ⟨rfl, Nat.zero_le _, ?_⟩
  simp only [isName, Bool.and_eq_true, decide_eq_true_eq] at h
  rw [sz]
  exact decide_eq_true (by omega)
theorem GW_tm {ps ws : List D} {n m : Nat} (h : GP ps n) (h4 : n ≤ 4) (k : GW (ps.map fstD) ws m) (k4 : m ≤ 4) : ∀ w ∈ ws, Tm 3 w := fun w hw => by
  obtain ⟨i, row, hi, rfl, h1, h2, h3, _⟩ := GW_mem k hw
  refine Tm_tuple (by simp) (two (Tm_name (strAt_name4w i (by omega)) _) (Tm_tuple (by omega) fun x hx => Tm_name (GP_names h h4 x (h3 x hx)) _))
theorem GP_tm {ps : List D} {n : Nat} (h : GP ps n) (h4 : n ≤ 4) : ∀ p ∈ ps, Tm 2 p := fun p hp => by
  obtain ⟨i, l, hi, rfl, _⟩ := GP_mem h hp
  exact Tm_tuple (by simp) (two (Tm_name (strAt_name4 i (by omega)) _) Tm_int)
theorem GNet_parts {ps ws : List D} {n m : Nat} (h : GP ps n) (k : GW (ps.map fstD) ws m) (h1 : 1 ≤ n) (h4 : n ≤ 4) (k1 : 1 ≤ m) (k4 : m ≤ 4) : ∃ p0 pr wi wl wn row a, ps = p0 :: pr ∧ ws = wi ++ [wl] ∧ NetP p0 pr wi wl wn row a := by
  obtain ⟨a, b, c, d, e, ka, kb, kc, kd⟩ := GP_four h h1 h4
  have htm := GP_tm h h4
  have hwt := GW_tm h h4 k k4
  have hl := h.1
  have kl := k.1
  have hz : inD (.str "zz") (ps.map fstD) = false := by
    rw [GP_map h]
    have : ∀ n, n < 5 → inD (.str "zz") ((List.range n).map (strAt "pqrs")) = false := by decide +kernel
    exact this n (by omega)
  have hpp : inD (.str "p") (ps.map fstD) = true := by
    rw [GP_map h]
    have : ∀ n, n < 5 → 1 ≤ n → inD (.str "p") ((List.range n).map (strAt "pqrs")) = true := by decide +kernel
    exact this n (by omega) h1
  have hrv : arePipes (.tuple (repD ps.reverse 2)) = false := by
    apply bad_ris
    have e2 : (repD ps.reverse 2).map fstD = repD ((List.range n).map (strAt "pqrs")).reverse 2 := by
      rw [← GP_map h]
      unfold repD
      rw [List.map_flatten, List.map_replicate, List.map_reverse]
    rw [e2]
    have : ∀ n, n < 5 → 1 ≤ n → risD (repD ((List.range n).map (strAt "pqrs")).reverse 2) = false := by decide +kernel
    exact this n (by omega) h1
  obtain ⟨wi, wl, rfl⟩ : ∃ wi wl, ws = wi ++ [wl] := by
    have hne : ws ≠ [] := by
      intro e
      subst e
      have : (0 : Nat) = m := kl
      omega
    exact ⟨ws.dropLast, ws.getLast hne, (List.dropLast_concat_getLast hne).symm⟩
  obtain ⟨i, row, hi, ew, hr⟩ := GW_mem k (w := wl) (by simp)
  have hwl : wi.length ≤ 3 := by rw [List.length_append] at kl; simp at kl; omega
  obtain ⟨p0, pr, rfl⟩ : ∃ p0 pr, ps = p0 :: pr := by
    cases ps with
    | nil =>
      have : (0 : Nat) = n := hl
      omega
    | cons p0 pr => exact ⟨p0, pr, rfl⟩
  have ep : p0 = .tuple [.str "p", .int a] := by
    cases n with
    | zero => omega
    | succ n =>
      rw [List.take_succ_cons] at e
      exact (List.cons.inj e).1
  exact ⟨p0, pr, wi, wl, strAt "abcd" i, row, a, rfl, rfl, ep, ka.1, ka.2, by simp at hl; omega, fun x hx => htm x (List.mem_cons_of_mem _ hx), hrv, hz, hpp, ew, hwl, fun x hx => hwt x (List.mem_append_left _ hx), hwt wl (by simp), Tm_name (strAt_name4w i (by omega)) _⟩
end Fp

set_option Elab.async false
set_option linter.all false
set_option maxRecDepth 100000
set_option maxHeartbeats 1000000
/-! k01: the law's own body. -/
namespace Fp
open PySem L2
theorem zip_lens2 : ∀ (rows ps : List D), (∀ (i : Nat) p r, ps[i]? = some p → rows[i]? = some r → SR p r) → (zipD rows ps).all lensOk = true
  | [], _, _ => rfl
  | _ :: _, [], _ => rfl
  | r :: rows, p :: ps, h => by
    have ih := zip_lens2 rows ps fun i p r h1 h2 => h (i + 1) p r h1 h2
    rw [zipD, List.zipWith_cons_cons, List.all_cons, Bool.and_eq_true]
    refine ⟨?_, ih⟩
    obtain ⟨xs, rfl, h1, _⟩ := h 0 p r rfl rfl
    exact decide_eq_true h1
theorem slug_name : ∀ x ∈ slugs, isName x = true := by decide +kernel
theorem GS_all {ps rows : List D} (h : GS ps rows ps.length) : ∀ (i : Nat) p r, ps[i]? = some p → rows[i]? = some r → SR p r := fun i p r h1 h2 => by
  obtain ⟨p', r', k1, k2, k3⟩ := h.2 i (List.getElem?_eq_some_iff.mp h1).1
  rw [h1] at k1
  rw [h2] at k2
  cases k1; cases k2
  exact k3
theorem GS_st {ps rows : List D} (h : GS ps rows ps.length) : stOf ps (.tuple rows) = true := by
  have h0 := GS_all h
  have hl := h.1
  have hm : ∀ r ∈ rows, ∃ xs : List D, r = .tuple xs ∧ ∀ x ∈ xs, x ∈ slugs := fun r hr => by
    obtain ⟨i, hi, rfl⟩ := List.mem_iff_getElem.mp hr
    obtain ⟨xs, e, _, h3⟩ := h0 i ps[i] rows[i] (List.getElem?_eq_getElem (by omega)) (List.getElem?_eq_getElem hi)
    exact ⟨xs, e, h3⟩
  have e1 : rows.all (isTy .tuple) = true := List.all_eq_true.mpr fun r hr => by
    obtain ⟨xs, rfl, _⟩ := hm r hr
    rfl
  have e2 : (rows.all fun r => (itD r).all isName) = true := List.all_eq_true.mpr fun r hr => by
    obtain ⟨xs, rfl, h3⟩ := hm r hr
    exact List.all_eq_true.mpr fun x hx => slug_name x (h3 x hx)
  rw [stOf, decide_eq_true hl, e1, zip_lens2 rows ps h0, e2]
  rfl
theorem GS_tm {ps rows : List D} (h : GS ps rows ps.length) (h4 : ∀ p ∈ ps, intD (sndD p) ≤ 4) : ∀ r ∈ rows, ∃ xs : List D, r = .tuple xs ∧ xs.length ≤ 4 ∧ ∀ x ∈ xs, Tm 0 x := fun r hr => by
  have hl := h.1
  obtain ⟨i, hi, rfl⟩ := List.mem_iff_getElem.mp hr
  obtain ⟨xs, e, h2, h3⟩ := GS_all h i ps[i] rows[i] (List.getElem?_eq_getElem (by omega)) (List.getElem?_eq_getElem hi)
  have := h4 ps[i] (List.getElem_mem _)
  exact ⟨xs, e, by omega, fun x hx => Tm_name (slug_name x (h3 x hx)) _⟩
theorem st_len {ps rows : List D} (h : rows.length ≠ ps.length) : stOf ps (.tuple rows) = false := by
  rw [stOf, decide_eq_false h]; rfl
theorem st_tup {ps rr : List D} {r : D} (h : isTy .tuple r = false) : stOf ps (.tuple (r :: rr)) = false := by
  rw [stOf, List.all_cons, h]; simp
theorem st_zip {pr rr : List D} {r p0 : D} (h : (lenD r : Int) ≠ intD (sndD p0)) : stOf (p0 :: pr) (.tuple (r :: rr)) = false := by
  have : (zipD (r :: rr) (p0 :: pr)).all lensOk = false := by
    rw [zipD, List.zipWith_cons_cons, List.all_cons]
    have e : lensOk (.tuple [r, p0]) = false := decide_eq_false h
    rw [e]; rfl
  rw [stOf, this]; simp
theorem st_nm {ps rr xr : List D} {s : D} (h : isName s = false) : stOf ps (.tuple (.tuple (s :: xr) :: rr)) = false := by
  have e : ((.tuple (s :: xr) :: rr : List D).all fun r => (itD r).all isName) = false := by
    rw [List.all_cons, itD, List.all_cons, h]; rfl
  rw [stOf, e]; simp
theorem no_ok {exs : List Str} {j : Nat} {g : List D → R D} (n : D) (he : exs.contains "NoNet" = true) (h : g [n, .tuple []] = .ex "NoNet") : runF 1 2 (B__law_no exs j g) [n] = .ok (.bool true) := by
  rw [run1 (np := 1) rfl]
  unfold B__law_no
  have e : exSs (.cons (.exp (.call j g (.cons (.slot 0) (.cons (.tup .nil) .nil)))) .nil) [.val n, .un] = .ex "NoNet" [.val n, .un] := by
    rw [exSs, exS, ev_call (evs_cons (ev_slot rfl) (evs1 (ev_tup evs_nil (by simp)))), h]
    rfl
  show (exSs _ [.val n, .un]).out = _
  rw [exSs, exS, e]
  dsimp only
  rw [he]
  rfl
structure Gs (gn gs gis gisn gb gno : List D → R D) (sc : D) : Prop where
  net : ∃ d, gn [sc, .int 10] = .ok d ∧ GNet d
  st : ∀ ps w n, GP ps n → n ≤ 6 → ∃ d, gs [sc, .int 60, .tuple [.tuple ps, w]] = .ok d ∧ GState ps d
  isn : ∀ d, sz d = true → fine d = true → gisn [d] = .ok (.bool (isNet d))
  is : ∀ n d, sz n = true → fine n = true → sz d = true → gis [n, d] = if isNet n = true then .ok (.bool (stOf (itD (fstD n)) d)) else .ex "NoNet"
  bad : ∀ p0 pr wi wl wn row a, NetP p0 pr wi wl wn row a → GoodB (gb [.tuple [.tuple (p0 :: pr), .tuple (wi ++ [wl])]])
  no : ∀ n, isNet n = false → sz n = true → fine n = true → gno [n] = .ok (.bool true)
def OB (ps os : List D) (n : Nat) : Prop := os.length ≤ n ∧ ∀ b ∈ os, stOf ps b = false ∧ sz b = true
theorem OB_app {ps bs cs : List D} {n m : Nat} (h : OB ps bs n) (hl : cs.length = m) (h2 : ∀ b ∈ cs, stOf ps b = false ∧ sz b = true) : OB ps (bs ++ cs) (n + m) := by
  refine ⟨by rw [List.length_append]; have := h.1; omega, fun b hb => ?_⟩
  rcases List.mem_append.mp hb with hb | hb
  · exact h.2 b hb
  · exact h2 b hb
def Yes (x : R D) : Prop := x = .ok (.bool true)
theorem Yes_eq {x y : Fl} (h : x = y) (k : Yes y.out) : Yes x.out := by rw [h]; exact k
theorem Yes_if {env : Env} {c a : E} {r : Ss} (h : evE c env = .ok (.bool false)) (k : Yes (exSs r env).out) : Yes (exSs (.cons (.ife c (.cons (.ret a) .nil) .nil) r) env).out := by
  rw [ex_ife h, if_neg (by simp), ex_nil]
  exact k
end Fp

set_option Elab.async false
set_option linter.all false
set_option maxRecDepth 100000
set_option maxHeartbeats 1000000
/-! k01: the law's own body, walked. -/
namespace Fp
open PySem L2
def lE (sc net st : D) (s3 s4 s5 s6 s7 s8 : Slot) : Env := [.val sc, .val net, .val st, s3, s4, s5, s6, s7, s8]
section
variable {gn gs gis gisn gb gno : List D → R D} {sc : D} {j0 j1 j2 j3 j4 j5 : Nat}
def lawB3 (j3 : Nat) (gisn : List D → R D) (j5 : Nat) (gno : List D → R D) : Ss := .cons (.ife (.or (.isk true (.call j3 gisn (.cons (.slot 3) .nil)) .fls) (.not (.call j5 gno (.cons (.slot 3) .nil)))) (.cons (.ret (.cst (.bool false))) .nil) .nil) .nil
theorem law_l3 (h : Gs gn gs gis gisn gb gno sc) {net st b : D} {s3 : Slot} (hb : Bad b) : forF (.nm 3) (lawB3 j3 gisn j5 gno) b (lE sc net st s3 .un .un .un .un .un) = .nx (lE sc net st (.val b) .un .un .un .un .un) := by
  have hs := hb.2.2.2
  have hf := Tm_fine hb.2 (by decide)
  have ha : forF (.nm 3) (lawB3 j3 gisn j5 gno) b (lE sc net st s3 .un .un .un .un .un) = exSs (lawB3 j3 gisn j5 gno) (lE sc net st (.val b) .un .un .un .un .un) := rfl
  rw [ha]
  unfold lawB3
  have hc : evE (.or (.isk true (.call j3 gisn (.cons (.slot 3) .nil)) .fls) (.not (.call j5 gno (.cons (.slot 3) .nil)))) (lE sc net st (.val b) .un .un .un .un .un) = .ok (.bool false) := by
    refine ok_of (ev_or (p := false) (ok_of (ev_isk (ev_call' (evs1 (ev_slot rfl)) (h.isn b hs hf)) rfl) (by rw [hb.1]; rfl)) fun _ => ev_not (ev_call' (evs1 (ev_slot rfl)) (h.no b hb.1 hs hf))) rfl
  rw [ex_ife hc, if_neg (by simp), ex_nil]
  exact ex_nil
def six : D := .tuple [.tuple [.str "a", .int 4], .tuple [.str "b", .int 4], .tuple [.str "c", .int 4], .tuple [.str "d", .int 4], .tuple [.str "e", .int 4], .tuple [.str "f", .int 4]]
def rowD : D := .tuple [.str "a", .str "c", .str "b", .str "f"]
def eight : D := .tuple [.tuple [.str "a", rowD], .tuple [.str "b", rowD], .tuple [.str "c", rowD], .tuple [.str "d", rowD], .tuple [.str "e", rowD], .tuple [.str "f", rowD], .tuple [.str "g", rowD], .tuple [.str "h", rowD]]
def five : D := .tuple [.tuple [.str "a", .tuple [.str "a", .str "b", .str "c", .str "d", .str "e"]]]
theorem six_ok : isNet (.tuple [six, eight]) = true ∧ sz (.tuple [six, eight]) = true ∧ fine (.tuple [six, eight]) = true ∧ isNet (.tuple [six, five]) = false ∧ sz (.tuple [six, five]) = true ∧ fine (.tuple [six, five]) = true := by decide +kernel
def lawT (j2 : Nat) (gis : List D → R D) : Ss := (.cons (.own 6 (.lst (.cons (.cst .none) (.cons (.tup .nil) (.cons (.blt .list (.cons (.slot 2) .nil)) (.cons (.sli (.slot 2) (.som (.cst (.int 1))) .non) (.cons (.bin .add (.slot 2) (.sli (.slot 2) .non (.som (.cst (.int 1))))) .nil)))))))
 (.cons (.own 6 (.bin .add (.bor 6) (.lst (.cons (.bin .add (.tup (.cons (.bin .add (.idx (.slot 2) (.cst (.int 0))) (.tup (.cons (.cst (.str "x")) .nil))) .nil)) (.sli (.slot 2) (.som (.cst (.int 1))) .non)) (.cons (.bin .add (.tup (.cons (.sli (.idx (.slot 2) (.cst (.int 0))) (.som (.cst (.int 1))) .non) .nil)) (.sli (.slot 2) (.som (.cst (.int 1))) .non)) .nil)))))
 (.cons (.own 6 (.bin .add (.bor 6) (.lst (.cons (.bin .add (.tup (.cons (.blt .list (.cons (.idx (.slot 2) (.cst (.int 0))) .nil)) .nil)) (.sli (.slot 2) (.som (.cst (.int 1))) .non)) .nil))))
 (.cons (.for (.nm 7) (.dat (.tup (.cons (.cst .none) (.cons (.cst (.str "")) (.cons (.cst (.str "X")) (.cons (.cst (.str "abcde")) (.cons (.cst (.int 7)) (.cons (.tup (.cons (.cst (.str "x")) .nil)) .nil)))))))) (.cons (.app 6 (.bin .add (.tup (.cons (.bin .add (.tup (.cons (.slot 7) .nil)) (.sli (.idx (.slot 2) (.cst (.int 0))) (.som (.cst (.int 1))) .non)) .nil)) (.sli (.slot 2) (.som (.cst (.int 1))) .non)))
 .nil))
 (.cons (.ret (.cmp .eq (.lc [8] (.nm 8) (.dat (.bor 6)) (.one (.isk true (.call j2 gis (.cons (.slot 1) (.cons (.slot 8) .nil))) .fls)) (.slot 8)) (.lst .nil)))
 .nil)))))
theorem law_head (h : Gs gn gs gis gisn gb gno sc) {ps ws : List D} {n m : Nat} {st : D} (hp : GP ps n) (hw : GW (ps.map fstD) ws m) (h1 : 1 ≤ n) (h4 : n ≤ 4) (k1 : 1 ≤ m) (k4 : m ≤ 4)
    (e1 : gn [sc, .int 10] = .ok (.tuple [.tuple ps, .tuple ws])) (e2 : gs [sc, .int 60, .tuple [.tuple ps, .tuple ws]] = .ok st) (hst : stOf ps st = true) (hss : sz st = true)
    (rest : ∀ s3 s4 s5, Yes (exSs (lawT j2 gis) (lE sc (.tuple [.tuple ps, .tuple ws]) st s3 s4 s5 .un .un .un)).out) : Yes (runF 1 9 (B_law j0 gn j1 gs j2 gis j3 gisn j4 gb j5 gno) [sc]) := by
  rw [run1 (np := 1) rfl]
  unfold B_law
  have hnet := GNet_is hp hw h1 h4 k1 k4
  obtain ⟨p0, pr, wi, wl, wn, row, a, e5, e6, hN⟩ := GNet_parts hp hw h1 h4 k1 k4
  have hpl := hp.1
  have hwl := hw.1
  have htm : Tm 5 (.tuple [.tuple ps, .tuple ws]) := Tm_tuple (by simp) (two (Tm_mono (Tm_tuple (by omega) (GP_tm hp h4)) (by decide)) (Tm_tuple (by omega) (GW_tm hp h4 hw k4)))
  have hns := htm.2.2
  have hnf := Tm_fine htm (by decide)
  have his := h.is _ st hns hnf hss
  rw [hnet, if_pos rfl] at his
  have his : gis [.tuple [.tuple ps, .tuple ws], st] = .ok (.bool true) := by rw [his]; exact congrArg (fun b => R.ok (PyData.bool b)) hst
  have hisn := h.isn _ hns hnf
  rw [hnet] at hisn
  have hbad := h.bad _ _ _ _ _ _ _ hN
  rw [← e5, ← e6] at hbad
  obtain ⟨bs, eb, hbs⟩ := hbad
  generalize hnn : PyData.tuple [.tuple ps, .tuple ws] = net at *
  show Yes (exSs _ [.val sc, .un, .un, .un, .un, .un, .un, .un, .un]).out
  refine Yes_eq (ex_asn (ev_call' (evs_cons (ev_slot rfl) (evs1 ev_cst)) e1) (by simp)) ?_
  show Yes (exSs _ [.val sc, .val net, .un, .un, .un, .un, .un, .un, .un]).out
  refine Yes_eq (ex_asn (ev_call' (evs_cons (ev_slot rfl) (evs_cons ev_cst (evs1 (ev_slot rfl)))) e2) (by simp)) ?_
  show Yes (exSs _ (lE sc net st .un .un .un .un .un .un)).out
  refine Yes_if (ok_of (ev_or (p := false) (ok_of (ev_isk (ev_call' (evs1 (ev_slot rfl)) hisn) rfl) rfl) fun _ => ev_isk (ev_call' (evs_cons (ev_slot rfl) (evs1 (ev_slot rfl))) his) rfl) rfl) ?_
  obtain ⟨env', e7, s3, rfl⟩ := for_inv (f := forF (.nm 3) (lawB3 j3 gisn j5 gno)) (P := fun _ env => ∃ s3, env = lE sc net st s3 .un .un .un .un .un) (xs := bs) (n := 0) (env := lE sc net st .un .un .un .un .un .un) ⟨_, rfl⟩ fun i x hx env he => by
    obtain ⟨s3, rfl⟩ := he
    exact ⟨_, law_l3 h (hbs x (List.mem_of_getElem? hx)), _, rfl⟩
  refine Yes_eq (ex_for (it_dat (ev_call' (evs1 (ev_slot rfl)) eb) rfl) e7) ?_
  have hc : ∀ (z : Str) (c : D), z.length ≤ 100 → ∀ f : E, (∀ env, evE f env = .ok c) → ∀ s4, evE (.blt .tuple (.cons (.lc [5] (.nm 5) (.dat (.cst (.str z))) .nil (.tup (.cons (.slot 5) (.cons f .nil)))) .nil)) (lE sc net st s3 s4 .un .un .un .un) =
      .ok (.tuple ((z.cps.toList.map fun c => PyData.str ⟨#[c]⟩).map fun x => .tuple [x, c])) := fun z c hz f hf s4 => by
    refine ev_blt' (evs1 (ev_lc (g := fun x => .tuple [x, c]) (it_dat ev_cst rfl) ?_ fun x hx => ⟨_, rfl, ev_tup (evs_cons (ev_slot rfl) (evs1 (hf _))) (by simp)⟩)) rfl
    have : z.cps.toList.length = z.length := by simp [Str.length]
    rw [List.length_map]
    omega
  refine Yes_eq (ex_asn (ok_of (w := six) (hc "abcdef" (.int 4) (by decide) _ (fun _ => ev_cst) _) rfl) (by simp [lE])) ?_
  show Yes (exSs _ (lE sc net st s3 (.val six) .un .un .un .un)).out
  obtain ⟨q1, q2, q3, q4, q5, q6⟩ := six_ok
  have i1 := h.isn _ q2 q3
  rw [q1] at i1
  have i2 := h.isn _ q5 q6
  rw [q4] at i2
  have hrow : ∀ env, evE (.tup (.cons (.cst (.str "a")) (.cons (.cst (.str "c")) (.cons (.cst (.str "b")) (.cons (.cst (.str "f")) .nil))))) env = .ok rowD := fun env => ev_tup (evs_cons ev_cst (evs_cons ev_cst (evs_cons ev_cst (evs1 ev_cst)))) (by simp)
  refine Yes_if (ok_of (ev_isk (ev_call' (evs1 (ev_tup (evs_cons (ev_slot rfl) (evs1 (ok_of (w := eight) (hc "abcdefgh" rowD (by decide) _ hrow _) rfl))) (by simp))) i1) rfl) rfl) ?_
  have hfive : evE (.tup (.cons (.tup (.cons (.cst (.str "a")) (.cons (.tup (.cons (.cst (.str "a")) (.cons (.cst (.str "b")) (.cons (.cst (.str "c")) (.cons (.cst (.str "d")) (.cons (.cst (.str "e")) .nil)))))) .nil))) .nil)) (lE sc net st s3 (.val six) .un .un .un .un) = .ok five :=
    ev_tup (evs1 (ev_tup (evs_cons ev_cst (evs1 (ev_tup (evs_cons ev_cst (evs_cons ev_cst (evs_cons ev_cst (evs_cons ev_cst (evs1 ev_cst))))) (by simp)))) (by simp))) (by simp)
  refine Yes_if (ok_of (ev_isk (ev_call' (evs1 (ev_tup (evs_cons (ev_slot rfl) (evs1 hfive)) (by simp))) i2) rfl) rfl) ?_
  exact rest _ _ _
end
end Fp

set_option Elab.async false
set_option linter.all false
set_option maxRecDepth 100000
set_option maxHeartbeats 1000000
/-! k01: the states that are none; the law. -/
namespace Fp
open PySem L2
section
variable {gn gs gis gisn gb gno : List D → R D} {sc : D} {j0 j1 j2 j3 j4 j5 : Nat}
/-- what a drawn state's parts are -/
structure StP (p0 : D) (pr : List D) (x0 : D) (xr rr : List D) : Prop where
  len : rr.length = pr.length
  l0 : ((xr.length + 1 : Nat) : Int) = intD (sndD p0)
  xl : xr.length ≤ 4
  rl : rr.length ≤ 4
  x0t : Tm 0 x0
  xt : ∀ x ∈ xr, Tm 0 x
  rt : ∀ x ∈ rr, Tm 1 x
def lawB7 : Ss := .cons (.app 6 (.bin .add (.tup (.cons (.bin .add (.tup (.cons (.slot 7) .nil)) (.sli (.idx (.slot 2) (.cst (.int 0))) (.som (.cst (.int 1))) .non)) .nil)) (.sli (.slot 2) (.som (.cst (.int 1))) .non))) .nil
def list6 : List D := [.none, .str "", .str "X", .str "abcde", .int 7, .tuple [.str "x"]]
theorem cut_head (w : D) (zs : List D) : cutD (w :: zs) none (some 1) = [w] := by
  have := cut_take (w :: zs) 1
  rw [show ((1 : Nat) : Int) = 1 from rfl] at this
  rw [this]
  rfl
section
variable {p0 x0 : D} {pr xr rr : List D}
theorem law_l7 (h : StP p0 pr x0 xr rr) {net : D} (n : Nat) (hn : n < 1000) (x : D) (hx : x ∈ list6) (os : List D) (ho : OB (p0 :: pr) os n) (s3 s4 s5 s7 s8 : Slot) :
    ∃ os', forF (.nm 7) lawB7 x (lE sc net (.tuple (.tuple (x0 :: xr) :: rr)) s3 s4 s5 (.own (.list os)) s7 s8) = .nx (lE sc net (.tuple (.tuple (x0 :: xr) :: rr)) s3 s4 s5 (.own (.list os')) (.val x) s8) ∧ OB (p0 :: pr) os' (n + 1) := by
  have ha : forF (.nm 7) lawB7 x (lE sc net (.tuple (.tuple (x0 :: xr) :: rr)) s3 s4 s5 (.own (.list os)) s7 s8) = exSs lawB7 (lE sc net (.tuple (.tuple (x0 :: xr) :: rr)) s3 s4 s5 (.own (.list os)) (.val x) s8) := rfl
  have h1 := h.xl
  have h2 := h.rl
  rw [ha]
  unfold lawB7
  have e : evE (.bin .add (.tup (.cons (.bin .add (.tup (.cons (.slot 7) .nil)) (.sli (.idx (.slot 2) (.cst (.int 0))) (.som (.cst (.int 1))) .non)) .nil)) (.sli (.slot 2) (.som (.cst (.int 1))) .non)) (lE sc net (.tuple (.tuple (x0 :: xr) :: rr)) s3 s4 s5 (.own (.list os)) (.val x) s8) = .ok (.tuple (.tuple (x :: xr) :: rr)) :=
    ev_bin' (ev_tup (evs1 (ev_bin' (ev_tup (evs1 (ev_slot rfl)) (by simp)) (ev_sli' (ev_idx' (ev_slot rfl) ev_cst dIdxT0) (evo_som ev_cst) evo_non (by rw [dSli, cut_one])) (add_T (xs := [x]) (by simp; omega)))) (by simp)) (ev_sli' (ev_slot rfl) (evo_som ev_cst) evo_non (by rw [dSli, cut_one])) (add_T (xs := [_]) (by simp; omega))
  rw [ex_app rfl e (by have := ho.1; omega), ex_nil]
  refine ⟨_, rfl, OB_app ho rfl (all_cons ⟨?_, ?_⟩ all_nil)⟩
  · apply st_nm
    have : ∀ y ∈ list6, isName y = false := by decide +kernel
    exact this x hx
  · have ht : Tm 1 x := by
      have : ∀ y ∈ list6, Tm 1 y := by unfold Tm; decide +kernel
      exact this x hx
    have : Tm 3 (.tuple (.tuple (x :: xr) :: rr)) := Tm_tuple (by simp; omega) (all_cons (Tm_tuple (by simp; omega) (all_cons ht (Tm_alls h.xt (by decide)))) (Tm_alls h.rt (by decide)))
    exact this.2.2
theorem law_tail (h : Gs gn gs gis gisn gb gno sc) (hs : StP p0 pr x0 xr rr) {w : D} (hnn : isNet (.tuple [.tuple (p0 :: pr), w]) = true) (hns : sz (.tuple [.tuple (p0 :: pr), w]) = true) (hnf : fine (.tuple [.tuple (p0 :: pr), w]) = true) (s3 s4 s5 : Slot) :
    Yes (exSs (lawT j2 gis) (lE sc (.tuple [.tuple (p0 :: pr), w]) (.tuple (.tuple (x0 :: xr) :: rr)) s3 s4 s5 .un .un .un)).out := by
  have h1 := hs.xl
  have h2 := hs.rl
  have h3 := hs.l0
  have h4 := hs.len
  have hX : Tm 2 (.tuple (x0 :: xr)) := Tm_tuple (by simp; omega) (all_cons (Tm_mono hs.x0t (by decide)) (Tm_alls hs.xt (by decide)))
  have hR : ∀ x ∈ rr, Tm 2 x := Tm_alls hs.rt (by decide)
  have his : ∀ d, sz d = true → gis [.tuple [.tuple (p0 :: pr), w], d] = .ok (.bool (stOf (p0 :: pr) d)) := fun d hd => by
    have := h.is _ d hns hnf hd
    rw [hnn, if_pos rfl] at this
    exact this
  generalize hnet : PyData.tuple [.tuple (p0 :: pr), w] = net at *
  generalize hst : PyData.tuple (.tuple (x0 :: xr) :: rr) = st
  unfold lawT
  have esl : ∀ env, env[2]? = some (.val st) → evE (.sli (.slot 2) (.som (.cst (.int 1))) .non) env = .ok (.tuple rr) := fun env he => by
    rw [← hst] at he
    exact ev_sli' (ev_slot he) (evo_som ev_cst) evo_non (by rw [dSli, cut_one])
  have ehd : ∀ env, env[2]? = some (.val st) → evE (.idx (.slot 2) (.cst (.int 0))) env = .ok (.tuple (x0 :: xr)) := fun env he => by
    rw [← hst] at he
    exact ev_idx' (ev_slot he) ev_cst dIdxT0
  have e1 : evE (.lst (.cons (.cst .none) (.cons (.tup .nil) (.cons (.blt .list (.cons (.slot 2) .nil)) (.cons (.sli (.slot 2) (.som (.cst (.int 1))) .non) (.cons (.bin .add (.slot 2) (.sli (.slot 2) .non (.som (.cst (.int 1))))) .nil))))))
      (lE sc net st s3 s4 s5 .un .un .un) = .ok (.list [PyData.none, .tuple [], .list (.tuple (x0 :: xr) :: rr), .tuple rr, .tuple ((.tuple (x0 :: xr) :: rr) ++ [.tuple (x0 :: xr)])]) := by
    refine ev_lst (evs_cons ev_cst (evs_cons (ev_tup evs_nil (by simp)) (evs_cons (ev_blt' (evs1 (ev_slot rfl)) ?_) (evs_cons (esl _ rfl) (evs1 (ev_bin' (y := .tuple [.tuple (x0 :: xr)]) (ev_slot rfl) (ev_sli' (ev_slot rfl) evo_non (evo_som ev_cst) ?_) ?_)))))) (by simp)
    · rw [← hst]; rfl
    · rw [← hst, dSli, cut_head]
    · rw [← hst]; exact add_T (by simp; omega)
  refine Yes_eq (ex_own e1 (by simp [lE])) ?_
  have g1 : OB (p0 :: pr) [PyData.none, .tuple [], .list (.tuple (x0 :: xr) :: rr), .tuple rr, .tuple ((.tuple (x0 :: xr) :: rr) ++ [.tuple (x0 :: xr)])] 5 := by
    refine ⟨Nat.le_refl _, all_cons ⟨rfl, rfl⟩ (all_cons ⟨st_len (by simp), rfl⟩ (all_cons ⟨rfl, ?_⟩ (two ⟨st_len (by simp; omega), ?_⟩ ⟨st_len (by simp; omega), ?_⟩)))⟩
    · exact (Tm_list (k := 2) (by simp; omega) (all_cons hX hR)).2.2
    · exact (Tm_tuple (k := 2) (by omega) hR).2.2
    · exact (Tm_tuple (k := 2) (by simp; omega) (Tm_app (all_cons hX hR) (all_cons hX all_nil))).2.2
  revert g1
  generalize [PyData.none, .tuple [], .list (.tuple (x0 :: xr) :: rr), .tuple rr, .tuple ((.tuple (x0 :: xr) :: rr) ++ [.tuple (x0 :: xr)])] = os1
  intro g1
  show Yes (exSs _ (lE sc net st s3 s4 s5 (.own (.list os1)) .un .un)).out
  refine Yes_eq (own_add (ds := [.tuple (.tuple (x0 :: xr ++ [.str "x"]) :: rr), .tuple (.tuple xr :: rr)])
    (evs_cons (ev_bin' (ev_tup (evs1 (ev_bin' (ehd _ rfl) (ev_tup (evs1 ev_cst) (by simp)) (add_T (by simp; omega)))) (by simp)) (esl _ rfl) (add_T (xs := [_]) (by simp; omega)))
      (evs1 (ev_bin' (ev_tup (evs1 (ev_sli' (ehd _ rfl) (evo_som ev_cst) evo_non (by rw [dSli, cut_one]))) (by simp)) (esl _ rfl) (add_T (xs := [_]) (by simp; omega))))) rfl (by have := g1.1; omega) (by simp)) ?_
  have g2 := OB_app (m := 2) g1 rfl (two (x := .tuple (.tuple (x0 :: xr ++ [.str "x"]) :: rr)) (y := .tuple (.tuple xr :: rr))
    ⟨st_zip (by simp only [lenD, List.length_append, List.length_cons, List.length_nil]; omega), (Tm_tuple (k := 2) (by simp; omega) (all_cons (Tm_tuple (k := 1) (by simp; omega) (Tm_app (all_cons (Tm_mono hs.x0t (by decide)) (Tm_alls hs.xt (by decide))) (all_cons (Tm_str (by decide)) all_nil))) hR)).2.2⟩
    ⟨st_zip (by simp only [lenD]; omega), (Tm_tuple (k := 2) (by simp; omega) (all_cons (Tm_tuple (k := 1) (by omega) (Tm_alls hs.xt (by decide))) hR)).2.2⟩)
  revert g2
  generalize os1 ++ _ = os2
  intro g2
  show Yes (exSs _ (lE sc net st s3 s4 s5 (.own (.list os2)) .un .un)).out
  refine Yes_eq (own_add (ds := [.tuple (.list (x0 :: xr) :: rr)])
    (evs1 (ev_bin' (ev_tup (evs1 (ev_blt' (evs1 (ehd _ rfl)) rfl)) (by simp)) (esl _ rfl) (add_T (xs := [_]) (by simp; omega)))) rfl (by have := g2.1; omega) (by simp)) ?_
  have g3 := OB_app (m := 1) g2 rfl (all_cons (x := .tuple (.list (x0 :: xr) :: rr))
    ⟨st_tup rfl, (Tm_tuple (k := 2) (by simp; omega) (all_cons (Tm_list (k := 1) (by simp; omega) (all_cons (Tm_mono hs.x0t (by decide)) (Tm_alls hs.xt (by decide)))) hR)).2.2⟩ all_nil)
  revert g3
  generalize os2 ++ _ = os3
  intro g3
  show Yes (exSs _ (lE sc net st s3 s4 s5 (.own (.list os3)) .un .un)).out
  subst hst
  obtain ⟨env', e7, os4, s7, rfl, g4⟩ := for_inv (f := forF (.nm 7) lawB7) (P := fun i env => ∃ os s7, env = lE sc net (.tuple (.tuple (x0 :: xr) :: rr)) s3 s4 s5 (.own (.list os)) s7 .un ∧ OB (p0 :: pr) os (8 + i)) (xs := list6) (n := 0) (env := lE sc net (.tuple (.tuple (x0 :: xr) :: rr)) s3 s4 s5 (.own (.list os3)) .un .un)
    ⟨_, _, rfl, g3⟩ fun i x hx env he => by
      obtain ⟨os, s7, rfl, hb⟩ := he
      have hi : i < 6 := (List.getElem?_eq_some_iff.mp hx).1
      obtain ⟨os', e, hb'⟩ := law_l7 (sc := sc) hs (net := net) (8 + (0 + i)) (by omega) x (List.mem_of_getElem? hx) os hb s3 s4 s5 s7 .un
      exact ⟨_, e, _, _, rfl, hb'⟩
  have g4 : OB (p0 :: pr) os4 14 := g4
  refine Yes_eq (ex_for (xs := list6) (it_dat (ev_tup (evs_cons ev_cst (evs_cons ev_cst (evs_cons ev_cst (evs_cons ev_cst (evs_cons ev_cst (evs1 (ev_tup (evs1 ev_cst) (by simp)))))))) (by simp)) rfl) e7) ?_
  show (exSs _ _).out = _
  have hfil : os4.filter (stOf (p0 :: pr)) = [] := by
    rw [List.filter_eq_nil_iff]
    intro b hb
    rw [(g4.2 b hb).1]
    simp
  rw [ret1, ev_cmp (y := .list []) (p := true) (ev_lcf (p := stOf (p0 :: pr)) (g := fun x => x) (it_dat (ev_boro rfl) rfl) (by have := g4.1; omega) fun x hx => ⟨_, rfl, ok_of (ev_isk (ev_call' (evs_cons (ev_slot rfl) (evs1 (ev_slot rfl))) (his x (g4.2 x hx).2)) rfl) ?_, fun _ => ev_slot rfl⟩) (ev_lst evs_nil (by simp)) ?_]
  · rw [hfil]; rfl
  · cases stOf (p0 :: pr) x <;> rfl
end
end
end Fp

set_option Elab.async false
set_option linter.all false
set_option maxRecDepth 100000
set_option maxHeartbeats 1000000
/-! k01: the plain law. -/
namespace Fp
open PySem L2
section
variable {gn gs gis gisn gb gno : List D → R D} {sc : D} {j0 j1 j2 j3 j4 j5 : Nat}
theorem law1_ok (h : Gs gn gs gis gisn gb gno sc) : runF 1 9 (B_law j0 gn j1 gs j2 gis j3 gisn j4 gb j5 gno) [sc] = .ok (.bool true) := by
  obtain ⟨d, e1, ps, ws, n, m, rfl, hp, hw, h1, h4, k1, k4⟩ := h.net
  obtain ⟨st, e2, rows, rfl, hg⟩ := h.st ps (.tuple ws) n hp (by omega)
  have hpl := hp.1
  have hwl := hw.1
  have hle : ∀ p ∈ ps, intD (sndD p) ≤ 4 := fun p hp' => by
    obtain ⟨i, l, _, rfl, h5, h6⟩ := GP_mem hp hp'
    show l ≤ 4
    omega
  have htm := GS_tm hg hle
  have hrl := hg.1
  have hall := GS_all hg
  have hst := GS_st hg
  have hrt : ∀ r ∈ rows, Tm 1 r := fun r hr => by
    obtain ⟨xs, rfl, h5, h6⟩ := htm r hr
    exact Tm_tuple (by omega) h6
  have hss : sz (.tuple rows) = true := (Tm_tuple (k := 1) (by omega) hrt).2.2
  have hnet := GNet_is hp hw h1 h4 k1 k4
  have hT : Tm 5 (.tuple [.tuple ps, .tuple ws]) := Tm_tuple (by simp) (two (Tm_mono (Tm_tuple (by omega) (GP_tm hp h4)) (by decide)) (Tm_tuple (by omega) (GW_tm hp h4 hw k4)))
  refine law_head h hp hw h1 h4 k1 k4 e1 e2 hst hss fun s3 s4 s5 => ?_
  obtain ⟨p0, pr, rfl⟩ : ∃ p0 pr, ps = p0 :: pr := by
    cases ps with
    | nil =>
      have : (0 : Nat) = n := hpl
      omega
    | cons p0 pr => exact ⟨p0, pr, rfl⟩
  obtain ⟨r0, rr, rfl⟩ : ∃ r0 rr, rows = r0 :: rr := by
    cases rows with
    | nil => simp at hrl
    | cons r0 rr => exact ⟨r0, rr, rfl⟩
  obtain ⟨xs, rfl, h5, h6⟩ := htm r0 List.mem_cons_self
  obtain ⟨xs', ee, h7, _⟩ := hall 0 p0 (.tuple xs) rfl rfl
  cases ee
  have h8 : 1 ≤ intD (sndD p0) := by
    obtain ⟨i, l, _, rfl, h5, h6⟩ := GP_mem hp (p := p0) List.mem_cons_self
    exact h5
  obtain ⟨x0, xr, rfl⟩ : ∃ x0 xr, xs = x0 :: xr := by
    cases xs with
    | nil =>
      simp at h7
      omega
    | cons x0 xr => exact ⟨x0, xr, rfl⟩
  refine law_tail h ⟨by simpa using hrl, by simpa using h7, by simp at h5; omega, by simp at hrl hpl; omega, h6 x0 List.mem_cons_self, fun x hx => h6 x (List.mem_cons_of_mem _ hx), fun x hx => hrt x (List.mem_cons_of_mem _ hx)⟩ hnet hT.2.2 (Tm_fine hT (by decide)) s3 s4 s5
end
end Fp

namespace Law
open PySem Fp
abbrev prg : Program := PySem.Challenge.pw_fullpipes_k01_nets
def top (i : Nat) : Stmt := prg.main.body.getD i (.Pass ⟨0, 0, 0, 0⟩)
def exs : List Str := ["NoNet", "PipeError"]
def b0 : Ss := B__law_drawn
def f0 : List D → R D := runF 3 6 b0
def t0 : Dt := ⟨"_law_drawn", top 21, ["_law_script", "_law_k", "_law_many"], ["_law_script", "_law_k", "_law_many", "_law_cell", "_law_turn", "_law_rest"], b0⟩
def b1 : Ss := B__law_net 0 f0
def f1 : List D → R D := runF 2 9 b1
def t1 : Dt := ⟨"_law_net", top 22, ["_law_script", "_law_at"], ["_law_script", "_law_at", "_law_pipes", "_law_k", "_law_ways", "_law_left", "_law_row", "_law_pipe", "_law_n"], b1⟩
def b2 : Ss := B__law_state 0 f0
def f2 : List D → R D := runF 3 8 b2
def t2 : Dt := ⟨"_law_state", top 23, ["_law_script", "_law_at", "_law_net_here"], ["_law_script", "_law_at", "_law_net_here", "_law_rows", "_law_k", "_law_name", "_law_length", "_law_n"], b2⟩
def b3 : Ss := B__law_bad
def f3 : List D → R D := runF 1 10 b3
def t3 : Dt := ⟨"_law_bad", top 25, ["_law_net_here"], ["_law_net_here", "_law_pipes", "_law_ways", "_law_name", "_law_length", "_law_found", "_law_some", "_law_bad_here", "_law_row", "_law_one"], b3⟩
def b4 : Ss := B_is_rising
def f4 : List D → R D := runF 1 3 b4
def t4 : Dt := ⟨"is_rising", top 12, ["things"], ["things", "one", "other"], b4⟩
def b5 : Ss := B_is_whole
def f5 : List D → R D := runF 3 3 b5
def t5 : Dt := ⟨"is_whole", top 10, ["thing", "least", "most"], ["thing", "least", "most"], b5⟩
def b6 : Ss := B_is_name
def f6 : List D → R D := runF 1 2 b6
def t6 : Dt := ⟨"is_name", top 11, ["thing"], ["thing", "sign"], b6⟩
def b7 : Ss := B_is_pair 6 f6
def f7 : List D → R D := runF 1 1 b7
def t7 : Dt := ⟨"is_pair", top 13, ["thing"], ["thing"], b7⟩
def b8 : Ss := B_are_pipes 7 f7 4 f4 5 f5
def f8 : List D → R D := runF 1 2 b8
def t8 : Dt := ⟨"are_pipes", top 14, ["thing"], ["thing", "pipe"], b8⟩
def b9 : Ss := B_is_row 6 f6
def f9 : List D → R D := runF 2 4 b9
def t9 : Dt := ⟨"is_row", top 15, ["names", "thing"], ["names", "thing", "at", "name"], b9⟩
def b10 : Ss := B_is_net 8 f8 9 f9 7 f7 4 f4
def f10 : List D → R D := runF 1 6 b10
def t10 : Dt := ⟨"is_net", top 16, ["thing"], ["thing", "pipes", "ways", "names", "pipe", "way"], b10⟩
def b11 : Ss := B_look_net 10 f10
def f11 : List D → R D := runF 1 1 b11
def t11 : Dt := ⟨"look_net", top 17, ["thing"], ["thing"], b11⟩
def b12 : Ss := B_is_state_of 6 f6
def f12 : List D → R D := runF 2 5 b12
def t12 : Dt := ⟨"is_state_of", top 18, ["net", "thing"], ["net", "thing", "row", "pipe", "slug"], b12⟩
def b13 : Ss := B_is_state 11 f11 12 f12
def f13 : List D → R D := runF 2 2 b13
def t13 : Dt := ⟨"is_state", top 19, ["net", "thing"], ["net", "thing"], b13⟩
def b14 : Ss := B__law_no exs 13 f13
def f14 : List D → R D := runF 1 2 b14
def t14 : Dt := ⟨"_law_no", top 24, ["_law_net_here"], ["_law_net_here", "e"], b14⟩
def b15 : Ss := B_law 1 f1 2 f2 13 f13 10 f10 3 f3 14 f14
def f15 : List D → R D := runF 1 9 b15
def t15 : Dt := ⟨"law", top 26, ["_law_script"], ["_law_script", "_law_net_here", "_law_state_here", "_law_bad_here", "_law_six", "_law_one", "_law_odd", "_law_slug", "_law_thing"], b15⟩
def L : Lw := ⟨[t0, t1, t2, t3, t4, t5, t6, t7, t8, t9, t10, t11, t12, t13, t14, t15], ["all", "bool", "enumerate", "int", "isinstance", "len", "list", "min", "range", "str", "tuple", "zip"], [("LONGEST", 4), ("MOST_LENGTH", 4), ("MOST_PIPES", 6), ("MOST_ROW", 4), ("MOST_WAYS", 8)], [("SMALL", "abcdefghijklmnopqrstuvwxyz")], exs⟩
theorem L_chk : okAll L.gx 0 L.dts = true := by kernel_rfl
theorem L_bnd : AllD Dt.binds L.dts := ⟨fun _ _ _ _ _ _ us hl => match us, hl with | [_, _, _], _ => rfl, fun _ _ _ _ _ _ us hl => match us, hl with | [_, _], _ => rfl, fun _ _ _ _ _ _ us hl => match us, hl with | [_, _, _], _ => rfl, fun _ _ _ _ _ _ us hl => match us, hl with | [_], _ => rfl, fun _ _ _ _ _ _ us hl => match us, hl with | [_], _ => rfl, fun _ _ _ _ _ _ us hl => match us, hl with | [_, _, _], _ => rfl, fun _ _ _ _ _ _ us hl => match us, hl with | [_], _ => rfl, fun _ _ _ _ _ _ us hl => match us, hl with | [_], _ => rfl, fun _ _ _ _ _ _ us hl => match us, hl with | [_], _ => rfl, fun _ _ _ _ _ _ us hl => match us, hl with | [_, _], _ => rfl, fun _ _ _ _ _ _ us hl => match us, hl with | [_], _ => rfl, fun _ _ _ _ _ _ us hl => match us, hl with | [_], _ => rfl, fun _ _ _ _ _ _ us hl => match us, hl with | [_, _], _ => rfl, fun _ _ _ _ _ _ us hl => match us, hl with | [_, _], _ => rfl, fun _ _ _ _ _ _ us hl => match us, hl with | [_], _ => rfl, fun _ _ _ _ _ _ us hl => match us, hl with | [_], _ => rfl, trivial⟩
theorem L_okT : AllD (fun t => t.b.okT L.T) L.dts := by
  (repeat first | exact True.intro | refine And.intro ?_ ?_ | exact rfl)
theorem L_ok : L.Ok := ⟨L_chk, L_bnd, L_okT⟩
open PySem PySem.W PySem.Calls PyProof.Rows L2
abbrev Rw : PySem.W.OpenRow := PySem.W.OpenLaw.row PySem.Challenge.rw_fullpipes_k01_nets
abbrev hk : PySem.W.Hook := hookX 4 L.fa L.fn L.exs
def ob (s : PySem.W.SharedT) : He.AlD := obsXG 4 L.fa L.fn L.exs (HandSHeadRun.getT s)
theorem ob_eq (s : PySem.W.SharedT) : ob s = hk.obs s.abs := obsXG_eq (HandSHeadRun.getT_eq s)
theorem run (w : World) : HandSHeadRun.RunEq Rw (PySem.W.view Rw.prog [26]) hk ob 3000 ["is_whole", "is_name", "is_rising", "is_pair", "are_pipes", "is_row", "is_net", "look_net", "is_state_of", "is_state", "_law_drawn", "_law_net", "_law_state", "_law_no", "_law_bad", "PipeError", "NoNet", "SMALL", "LONGEST", "MOST_PIPES", "MOST_LENGTH", "MOST_WAYS", "MOST_ROW"] w := by
  intro os
  kernel_rfl
end Law

open PySem PySem.W PySem.Calls PyProof.Rows Fp
theorem law_gs (ns : List Int) (h : ns.length ≤ 63) : Fp.Gs Law.f1 Law.f2 Law.f13 Law.f10 Law.f3 Law.f14 (.list (ns.map PyData.int)) := by
  have hD : Drawn Law.f0 (.list (ns.map PyData.int)) := fun k m h1 h2 h3 => drawn_ok ns (by omega) k m h1 h2 h3
  have hname : ∀ d, sz d = true → Law.f6 [d] = .ok (.bool (isName d)) := fun d hd => is_name_ok d hd
  have hwhole : ∀ d i j, Law.f5 [d, .int i, .int j] = .ok (.bool (isWhole d i j)) := fun d i j => is_whole_ok d i j
  have hris : ∀ xs : List D, xs.length ≤ 1000000 → names xs = true → Law.f4 [.list xs] = .ok (.bool (risD xs)) := fun xs h1 h2 => is_rising_ok xs h1 h2
  have hpair : ∀ d, sz d = true → Law.f7 [d] = .ok (.bool (isPair d)) := fun d hd => is_pair_ok 6 hname d hd
  have hpipes : ∀ d, sz d = true → Law.f8 [d] = .ok (.bool (arePipes d)) := fun d hd => are_pipes_ok 7 4 5 hpair hris hwhole d hd
  have hrow : ∀ ms : List D, fine (.list ms) = true → ∀ d, sz d = true → fine d = true → Law.f9 [.list ms, d] = .ok (.bool (isRow ms d)) := fun ms h1 d h2 h3 => is_row_ok 6 hname ms h1 d h2 h3
  have hnet : ∀ d, sz d = true → fine d = true → Law.f10 [d] = .ok (.bool (isNet d)) := fun d h1 h2 => is_net_ok 8 9 7 4 hpipes hrow hpair hris d h1 h2
  have hlook : ∀ d, sz d = true → fine d = true → Law.f11 [d] = if isNet d = true then .ok .none else .ex "NoNet" := fun d h1 h2 => look_net_ok 10 hnet d h1 h2
  have hof : ∀ ps w, arePipes (.tuple ps) = true → ps.length ≤ 1000000 → ∀ d, sz d = true → Law.f12 [.tuple [.tuple ps, w], d] = .ok (.bool (stOf ps d)) := fun ps w h1 h2 d h3 => is_state_of_ok 6 hname ps w h1 h2 d h3
  have hst : ∀ n d, sz n = true → fine n = true → sz d = true → Law.f13 [n, d] = if isNet n = true then .ok (.bool (stOf (itD (fstD n)) d)) else .ex "NoNet" := fun n d h1 h2 h3 => is_state_ok 11 12 hlook hof n d h1 h2 h3
  refine ⟨net_ok hD (by decide) (by decide), fun ps w n h1 h2 => state_ok hD (by decide) (by decide) h1 h2, hnet, hst, fun p0 pr wi wl wn row a hN => bad_ok hN, fun n h1 h2 h3 => no_ok n (by decide) ?_⟩
  rw [hst n (.tuple []) h2 h3 rfl, h1]
  rfl
theorem law_true (ns : List Int) (h : ns.length ≤ 63) : Law.t15.g [.list (ns.map PyData.int)] = .ok (.bool true) := law1_ok (law_gs ns h)
theorem PySem.Challenge.cw_fullpipes_k01_nets_holds : PySem.Challenge.rw_fullpipes_k01_nets.Holds := by
  w_on; o_law
  refine HandSHeadRun.head_any (r := OpenLaw.row PySem.Challenge.rw_fullpipes_k01_nets) (q := view (OpenLaw.row PySem.Challenge.rw_fullpipes_k01_nets).prog [26]) (H := Law.hk) (ob := Law.ob) (M := 3000) (loose := ["is_whole", "is_name", "is_rising", "is_pair", "are_pipes", "is_row", "is_net", "look_net", "is_state_of", "is_state", "_law_drawn", "_law_net", "_law_state", "_law_no", "_law_bad", "PipeError", "NoNet", "SMALL", "LONGEST", "MOST_PIPES", "MOST_LENGTH", "MOST_WAYS", "MOST_ROW"]) (d := HandSHeadRun.topDef (OpenLaw.row PySem.Challenge.rw_fullpipes_k01_nets).prog 26) (kwd := []) Law.ob_eq
    (by kernel_rfl) (fun s => by kernel_rfl) Law.run (by kernel_rfl) (by kernel_rfl) (by kernel_rfl) (by rfl) (by first | assumption | decide +kernel) (by decide +kernel) ⟨rfl, rfl, rfl, rfl, rfl, by decide +kernel⟩ ?hw ?hc
  case hw => w_witness2
  case hc =>
    exact Fp.walk_law (l := PySem.Challenge.rw_fullpipes_k01_nets) (n := 63) (m := 4) (L := Law.L) rfl (by rw [sz_eq]; omega) (by kernel_rfl) (by kernel_rfl) Law.L_ok 15 Law.t15 "_law_script" rfl rfl rfl ⟨rfl, by decide, by decide⟩ law_true
