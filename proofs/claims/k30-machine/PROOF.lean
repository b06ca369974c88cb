import PyProof.Rows.All
import PySem.Str
import Wide.All
import OpenK.AllK
import Wide.FinOn
import HandS.ForMost
import HandS.ForExc
import HandS.Flow
import HandS.IsInst
import HandS.TupAny
import HandS.TupMul
import HandS.TupLe
import HandS.TupLen
import HandS.Deep
import HandS.Zip
import HandS.Star
import HandS.Conv
import HandS.Style
import HandS.ExcInit
import HandS.CallSlots
import HandS.TryMany
import PyProof.TupleKey
import KE.KDictKeyed
import KE.KeyNested
import KE.SortData
import KE.KTupSum
import KE.DataMinMax
import KE.KStar
import KE.KDictWalk
import KE.KDictDisplayH
import PyProof.Rows.TupDisplay
import HandS.OwnEq
import PyProof.TableCode
import PySem.Challenge.RW_meldwaits_k30_whole_machine
set_option Elab.async false
set_option linter.all false
set_option maxRecDepth 100000
set_option maxHeartbeats 0
namespace MW
open PySem (Str)
inductive D where
  | non | bl (b : Bool) | int (i : Int) | str (s : Str)
  | tup (xs : List D) | lst (xs : List D) | dct (kvs : List (D × D))
  | ins (c : Nat) (fs : List D) | ref (n : Nat)
    | scr (xs : List Int)
  deriving Inhabited
inductive Vl where
  | dat (d : D) | frs (d : D) | bor (d : D)
  deriving Inhabited
def Vl.d : Vl → D
  | .dat d => d | .frs d => d | .bor d => d
def Vl.fz : Vl → Option D
  | .dat d => some d | .frs d => some d | .bor _ => none
inductive Sl where
  | un | dat (d : D) | cel (d : D) | exn (c : Nat) (d : D)
  deriving Inhabited
abbrev Mu := List D
inductive Res (α : Type) where
  | ok (a : α) (m : Mu) | exc (c : Nat) (d : D) (m : Mu) | bad
abbrev M (α : Type) := Mu → Res α
def pur {α : Type} (a : α) : M α := fun m => .ok a m
def bad {α : Type} : M α := fun _ => .bad
def bnd {α β : Type} (x : M α) (f : α → M β) : M β := fun m =>
  match x m with
  | .ok a m' => f a m'
  | .exc c d m' => .exc c d m'
  | .bad => .bad
def opt {α : Type} : Option α → M α
  | some a => pur a
  | none => bad
def nox {α : Type} (x : M α) : M α := fun m =>
  match x m with
  | .ok a m' => .ok a m'
  | _ => .bad
def LINE : Nat := 16777216
mutual
def eqD : D → D → Bool
  | .non, .non => true
  | .bl a, .bl b => a == b
  | .bl a, .int j => (if a then 1 else 0) == j
  | .int i, .bl b => i == (if b then 1 else 0)
  | .int i, .int j => i == j
  | .str x, .str y => x == y
  | .lst xs, .lst ys => eqDs xs ys
  | .tup xs, .tup ys => eqDs xs ys
  | _, _ => false
def eqDs : List D → List D → Bool
  | [], [] => true
  | x :: xs, y :: ys => eqD x y && eqDs xs ys
  | _, _ => false
end
mutual
def plain : Nat → D → Bool
  | _, .non => true
  | _, .bl _ => true
  | _, .int _ => true
  | _, .str x => x.cps.all (· < 1114112)
  | n, .tup xs => plains n xs
  | n, .lst xs => plains n xs
  | _, _ => false
def plains : Nat → List D → Bool
  | 0, _ => false
  | _ + 1, [] => true
  | n + 1, x :: xs => plain n x && plains (n + 1) xs
end
def plain64 (d : D) : Bool := plain 60 d
inductive Lo where
  | lt | le | gt | ge
  deriving DecidableEq
def Lo.int : Lo → Int → Int → Bool
  | .lt, i, j => decide (i < j)
  | .le, i, j => decide (i ≤ j)
  | .gt, i, j => decide (j < i)
  | .ge, i, j => decide (j ≤ i)
def Lo.len : Lo → Nat → Nat → Bool
  | .lt, i, j => decide (i < j)
  | .le, i, j => decide (i ≤ j)
  | .gt, i, j => decide (j < i)
  | .ge, i, j => decide (j ≤ i)
def Lo.str : Lo → Str → Str → Bool
  | .lt, x, y => decide (x.cps.toList < y.cps.toList)
  | .gt, x, y => decide (y.cps.toList < x.cps.toList)
  | .le, x, y => !decide (y.cps.toList < x.cps.toList)
  | .ge, x, y => !decide (x.cps.toList < y.cps.toList)
mutual
def ordD (o : Lo) : D → D → Option Bool
  | .int i, .int j => some (o.int i j)
  | .str x, .str y => some (o.str x y)
  | .tup xs, .tup ys => ordDs o xs ys
  | _, _ => none
def ordDs (o : Lo) : List D → List D → Option Bool
  | [], [] => some (o.len 0 0)
  | [], _ :: _ => some (o.len 0 1)
  | _ :: _, [] => some (o.len 1 0)
  | x :: xs, y :: ys => match ordDs o xs ys with
    | some r => if eqD x y then some r else ordD o x y
    | none => none
end
def ltB (x y : D) : Bool := (ordD .lt x y).getD false
def insD (x : D) : List D → List D
  | [] => [x]
  | y :: ys => if ltB x y then x :: y :: ys else y :: insD x ys
def sortD : List D → List D
  | [] => []
  | x :: xs => insR x (sortD xs)
where insR (x : D) : List D → List D
  | [] => [x]
  | y :: ys => if ltB y x then y :: insR x ys else x :: y :: ys
inductive Bo where
  | add | sub | mul | fdiv | mod | pow
  deriving DecidableEq
inductive Co where
  | eq | ne | ord (o : Lo) | isin | notin | is | isnot
  deriving DecidableEq
inductive B1 where
  | len | sum | max | min | all | any | sorted | tuple | list | int | abs | str | setlen
  deriving DecidableEq
inductive Ty where
  | int | bool | str | tuple | tuplist | cls (c : Nat)
  deriving DecidableEq
def small (i : Int) : Bool := decide (-18446744073709551616 < i) && decide (i < 18446744073709551616)
def rep {α : Type} (n : Nat) (xs : List α) : List α := (List.replicate n xs).flatten
def binD : Bo → D → D → Option Vl
  | .add, .int i, .int j => some (.dat (.int (i + j)))
  | .add, .str x, .str y => if x.length + y.length ≤ LINE then some (.dat (.str (x ++ y))) else none
  | .add, .tup xs, .tup ys => if xs.length + ys.length ≤ LINE then some (.dat (.tup (xs ++ ys))) else none
  | .add, .lst xs, .lst ys => if xs.length + ys.length ≤ LINE then some (.frs (.lst (xs ++ ys))) else none
  | .sub, .int i, .int j => some (.dat (.int (i - j)))
  | .mul, .int i, .int j => if small i || small j then some (.dat (.int (i * j))) else none
  | .mul, .lst xs, .int j => if xs.length * j.toNat ≤ LINE && decide (-(2 ^ 63) ≤ j) && decide (j < 2 ^ 63) then some (.frs (.lst (rep j.toNat xs))) else none
  | .mul, .tup xs, .int j => if xs.length ≤ 1000 && decide (2 ≤ j) && decide (j ≤ 1000) && !xs.isEmpty then some (.dat (.tup (rep j.toNat xs))) else none
  | .fdiv, .int i, .int j => if decide (0 < j) && decide (j < 1073741824) then some (.dat (.int (i / j))) else none
  | .mod, .int i, .int j => if decide (0 < j) then some (.dat (.int (i % j))) else none
  | .pow, .int i, .int j => if decide (0 ≤ j) && decide (j ≤ 1000000) && decide (i.natAbs < 2 ^ 64) then some (.dat (.int (i ^ j.toNat))) else none
  | _, _, _ => none
def assoc : List (D × D) → D → Option D
  | [], _ => none
  | (k, v) :: r, x => if eqD k x then some v else assoc r x
def dput : List (D × D) → D → D → List (D × D)
  | [], x, y => [(x, y)]
  | (k, v) :: r, x, y => if eqD k x then (k, y) :: r else (k, v) :: dput r x y
def dputs (acc : List (D × D)) : List D → List (D × D)
  | [] => acc
  | .tup [k, v] :: r => dputs (dput acc k v) r
  | _ :: r => dputs acc r
mutual
def isKey : Nat → D → Bool
  | _, .non => true
  | _, .int _ => true
  | _, .bl _ => true
  | _, .str _ => true
  | n, .tup xs => isKeys n xs
  | _, _ => false
def isKeys : Nat → List D → Bool
  | 0, _ => false
  | _ + 1, [] => true
  | n + 1, x :: xs => isKey n x && isKeys (n + 1) xs
end
def keyOk : D → Bool
  | .tup xs => isKeys 4 xs
  | _ => false
def memD (x : D) : List D → Bool
  | [] => false
  | y :: ys => eqD y x || memD x ys
def cmpD : Co → D → D → Option Bool
  | .eq, a, b => if plain64 a && plain64 b then some (eqD a b) else none
  | .ne, a, b => if plain64 a && plain64 b then some (!eqD a b) else none
  | .ord o, a, b => if plain64 a && plain64 b then ordD o a b else none
  | .isin, a, .lst ys => if plain64 a && plain64 (.lst ys) then some (memD a ys) else none
  | .isin, a, .tup ys => if plain64 a && plain64 (.tup ys) then some (memD a ys) else none
  | .isin, a, .dct kvs => if keyOk a then some (assoc kvs a).isSome else none
  | .notin, a, .lst ys => if plain64 a && plain64 (.lst ys) then some (!memD a ys) else none
  | .notin, a, .tup ys => if plain64 a && plain64 (.tup ys) then some (!memD a ys) else none
  | .notin, a, .dct kvs => if keyOk a then some (!(assoc kvs a).isSome) else none
  | .is, a, .non => some (match a with | .non => true | _ => false)
  | .isnot, a, .non => some (match a with | .non => false | _ => true)
  | .is, .bl a, .bl b => some (a == b)
  | .isnot, .bl a, .bl b => some (!(a == b))
  | _, _, _ => none
def truthD : D → Option Bool
  | .non => some false
  | .bl b => some b
  | .int i => some (i != 0)
  | .str s => if s.length ≤ LINE then some (s.length != 0) else none
  | .tup xs => some (!xs.isEmpty)
  | .lst xs => some (!xs.isEmpty)
  | _ => none
def place (n : Nat) (i : Int) : Option Nat := if 0 ≤ i then (if i < n then some i.toNat else none) else if -(n : Int) ≤ i then some (i + n).toNat else none
def idxD : D → D → Option D
  | .lst xs, .int i => (place xs.length i).bind fun j => xs[j]?
  | .tup xs, .int i => (place xs.length i).bind fun j => xs[j]?
  | .scr xs, .int i => (place xs.length i).bind fun j => (xs[j]?).map .int
  | .dct kvs, k => if keyOk k then assoc kvs k else none
  | _, _ => none
def sIx (n d : Nat) : Option Int → Nat
  | none => d
  | some v => if v < 0 then (v + (n : Int)).toNat else min v.toNat n
def cut {α : Type} (xs : List α) (lo hi : Option Int) : List α := (xs.drop (sIx xs.length 0 lo)).take (sIx xs.length xs.length hi - sIx xs.length 0 lo)
def slcD : D → Option Int → Option Int → Option Vl
  | .lst xs, lo, hi => some (.frs (.lst (cut xs lo hi)))
  | .tup xs, lo, hi => some (.dat (.tup (cut xs lo hi)))
  | .str s, lo, hi => if s.length ≤ LINE then some (.dat (.str ⟨(cut s.cps.toList lo hi).toArray⟩)) else none
  | _, _, _ => none
def revD : D → Option Vl
  | .lst xs => some (.frs (.lst xs.reverse))
  | .tup xs => some (.dat (.tup xs.reverse))
  | .scr xs => some (.frs (.lst (xs.reverse.map .int)))
  | _ => none
def intsD : List D → Option (List Int)
  | [] => some []
  | .int i :: r => (intsD r).map (i :: ·)
  | _ => none
def boolsD : List D → Option (List Bool)
  | [] => some []
  | .bl b :: r => (boolsD r).map (b :: ·)
  | _ => none
def seqOf : D → Option (List D)
  | .lst xs => some xs
  | .tup xs => some xs
  | _ => none
def maxI : Int → List Int → Int
  | a, [] => a
  | a, b :: r => maxI (if a < b then b else a) r
def minI : Int → List Int → Int
  | a, [] => a
  | a, b :: r => minI (if b < a then b else a) r
def dedup : List Int → List Int
  | [] => []
  | a :: r => if r.contains a then dedup r else a :: dedup r
mutual
def sameKind : D → D → Bool
  | .int _, .int _ => true
  | .str _, .str _ => true
  | .tup xs, .tup ys => sameKinds xs ys
  | _, _ => false
def sameKinds : List D → List D → Bool
  | x :: xs, y :: ys => sameKind x y && sameKinds xs ys
  | _, _ => true
end
mutual
def ordered : D → Bool
  | .int _ => true
  | .str _ => true
  | .tup xs => ordereds xs
  | _ => false
def ordereds : List D → Bool
  | [] => true
  | x :: xs => ordered x && ordereds xs
end
def isTup : D → Bool
  | .tup _ => true
  | _ => false
def isTup1 : D → Bool
  | .tup (_ :: _) => true
  | _ => false
def sortOk (xs : List D) : Bool := decide (xs.length ≤ LINE) && xs.all ordered && xs.all (fun x => xs.all (sameKind x)) && xs.all plain64 && (xs.all isTup1 || xs.all (fun x => !isTup x))
def met (acc : List Int) : List Int → List Int
  | [] => acc
  | x :: xs => met (if acc.any (· == x) then acc else acc ++ [x]) xs
def maxL : List Int → Option Vl
  | [] => none
  | a :: r => some (.dat (.int (maxI a r)))
def minL : List Int → Option Vl
  | [] => none
  | a :: r => some (.dat (.int (minI a r)))
def lenD : D → Option Vl
  | .lst xs => some (.dat (.int xs.length))
  | .tup xs => some (.dat (.int xs.length))
  | .scr xs => some (.dat (.int xs.length))
  | .dct kvs => some (.dat (.int kvs.length))
  | .str s => if s.length ≤ LINE then some (.dat (.int s.length)) else none
  | _ => none
def lstOf : D → Option (List D)
  | .lst xs => some xs
  | _ => none
def intsOf (d : D) : Option (List Int) := (lstOf d).bind intsD
def tupleD : D → Option Vl
  | .lst xs => some (.dat (.tup xs))
  | .tup xs => some (.dat (.tup xs))
  | _ => none
def listD : D → Option Vl
  | .lst xs => some (.frs (.lst xs))
  | .scr xs => some (.frs (.lst (xs.map .int)))
  | .tup xs => some (.frs (.lst xs))
  | .dct kvs => some (.frs (.lst (kvs.map (·.1))))
  | _ => none
def intD : D → Option Vl
  | .int i => some (.dat (.int i))
  | .bl b => some (.dat (.int (if b then 1 else 0)))
  | _ => none
def absD : D → Option Vl
  | .int i => some (.dat (.int (if i < 0 then -i else i)))
  | _ => none
def strD : D → Option Vl
  | .int i => if i.natAbs.log2 < 1920 then some (.dat (.str (Str.ofString (toString i)))) else none
  | _ => none
def b1D : B1 → D → Option Vl
  | .len, d => lenD d
  | .sum, d => (intsOf d).map fun is => .dat (.int is.sum)
  | .max, d => (intsOf d).bind maxL
  | .min, d => (intsOf d).bind minL
  | .all, d => ((lstOf d).bind boolsD).map fun bs => .dat (.bl (bs.all id))
  | .any, d => ((lstOf d).bind boolsD).map fun bs => .dat (.bl (bs.any id))
  | .sorted, d => (lstOf d).bind fun xs => if sortOk xs then some (.frs (.lst (sortD xs))) else none
  | .tuple, d => tupleD d
  | .list, d => listD d
  | .int, d => intD d
  | .abs, d => absD d
  | .str, d => strD d
  | .setlen, d => (intsOf d).bind fun is => if is.length ≤ 4000 then some (.dat (.int (met [] is).length)) else none
def isiD : Ty → D → Option Bool
  | .int, d => some (match d with | .int _ => true | .bl _ => true | _ => false)
  | .bool, d => some (match d with | .bl _ => true | _ => false)
  | .str, d => some (match d with | .str _ => true | _ => false)
  | .tuple, d => some (match d with | .tup _ => true | _ => false)
  | .tuplist, d => some (match d with | .tup _ => true | .lst _ => true | _ => false)
  | .cls c, d => some (match d with | .ins c' _ => c == c' | _ => false)
def noRef : D → Bool
  | .ref _ => false
  | .dct _ => false
  | .scr _ => false
  | _ => true
def rngL : Nat → Int → List D
  | 0, _ => []
  | n + 1, lo => .int lo :: rngL n (lo + 1)
def inRange (i : Int) : Bool := decide (-4611686018427387904 ≤ i) && decide (i < 4611686018427387904)
def enumL : Int → List D → List D
  | _, [] => []
  | k, x :: xs => .tup [.int k, x] :: enumL (k + 1) xs
def zipL : List D → List D → List D
  | x :: xs, y :: ys => .tup [x, y] :: zipL xs ys
  | _, _ => []
inductive Tg where
  | nm (i : Nat) | tp (ts : List Tg)
mutual
inductive E where
  | con (d : D) | var (i : Nat) | bor (i : Nat)
  | tup (es : Es) | lst (es : Es) | dnil | done (k v : E)
  | bin (o : Bo) (a b : E) | neg (a : E)
  | cmp (o : Co) (a b : E) | chn (o p : Co) (a b c : E)
  | and (a b : E) | or (a b : E) | not (a : E) | ite (c a b : E)
  | idx (a i : E) | slc (a : E) (lo hi : Eo) | rev (a : E)
  | att (a : E) (k : Nat) | exa (i : Nat) (k : Nat)
  | call (f : Nat) (es : Es) | mk (c f : Nat) (es : Es) (keep : Bool) | met (c f : Nat) (a : E) (es : Es)
  | b1 (o : B1) (a : E) | min2 (a b : E) | max2 (a b : E) | lrng (a b : E)
  | isi (a : E) (t : Ty)
  | dget (a k : E) | dgetd (a k d : E) | index (a x : E)
  | comp (elt : E) (g : Gs) | dcomp (k v : E) (g : Gs)
  | sto (e : E)
inductive Eo where
  | no | so (e : E)
inductive Es where
  | nil | cons (st : Bool) (e : E) (r : Es)
inductive It where
  | rng (a b : E) | seq (e : E) | enum (e : E) | zip (a b : E)
inductive Gs where
  | nil | cons (t : Tg) (it : It) (cs : Es) (r : Gs)
end
mutual
inductive S where
  | asg (t : Tg) (e : E)
  | seti (i : Nat) (k v : E) | setr (a k v : E) | seta (a : E) (k : Nat) (v : E)
  | aug (i : Nat) (o : Bo) (e : E) | augr (a k : E) (o : Bo) (e : E)
  | app (i : Nat) (e : E) | appr (a e : E) | ext (i : Nat) (e : E)
  | pop (t : Tg) (i : Nat) | popr (t : Tg) (a : E)
  | sdef (i : Nat) (k v : E)
  | expr (e : E)
  | ite (c : E) (a b : Ss) | for_ (t : Tg) (it : It) (b : Ss) | whl (c : E) (b : Ss)
  | ret (e : E) | retb (i : Nat) | retn | raise (c : Nat) (e : E) | try_ (b : Ss) (hs : Hs)
  | pass | brk | cont | frz (i : Nat)
inductive Ss where
  | nil | cons (s : S) (r : Ss)
inductive Hs where
  | nil | cons (c i : Nat) (b : Ss) (r : Hs)
end
structure CL where
  call : Nat → List D → M Vl
  flds : List (List Nat)
  lenf : List (Option Nat)
  eqf : List (Option Nat)
def ixOf (k : Nat) : List Nat → Option Nat
  | [] => none
  | x :: xs => if x = k then some 0 else (ixOf k xs).map (· + 1)
def asgT : Tg → Vl → List Sl → Option (List Sl)
  | .nm i, .dat d, ρ => if i < ρ.length then some (ρ.set i (.dat d)) else none
  | .nm i, .frs d, ρ => if i < ρ.length then some (ρ.set i (.cel d)) else none
  | .nm _, .bor _, _ => none
  | .tp ts, v, ρ => match v.fz with
    | some (.tup xs) => asgTs ts xs ρ
    | _ => none
where asgTs : List Tg → List D → List Sl → Option (List Sl)
  | [], [], ρ => some ρ
  | t :: ts, x :: xs, ρ => (asgT t (.dat x) ρ).bind (asgTs ts xs)
  | _, _, _ => none
def mapC {α : Type} (f : D → M (List α)) : List D → M (List α)
  | [] => pur []
  | x :: xs => bnd (f x) fun a => bnd (mapC f xs) fun b => pur (a ++ b)
def content (d : D) (m : Mu) : D :=
  match d with
  | .ref n => m.getD n .non
  | d => d
def look {α : Type} (d : D) (f : D → M α) : M α := fun m => f (content d m) m
def isRef : D → Bool
  | .ref _ => true
  | _ => false
def slot (ρ : List Sl) (i : Nat) : Sl := ρ.getD i .un
def cmpX (c : CL) (o : Co) (a b p q : D) : M Vl :=
  match o, p with
  | .eq, .ins cc _ => match c.eqf.getD cc none with
    | some f => bnd (c.call f [a, b]) fun z => match z with
      | .dat (.bl t) => pur (.dat (.bl t))
      | _ => bad
    | none => bad
  | .ne, .ins cc _ => match c.eqf.getD cc none with
    | some f => bnd (c.call f [a, b]) fun z => match z with
      | .dat (.bl t) => pur (.dat (.bl (!t)))
      | _ => bad
    | none => bad
  | _, _ => bnd (opt (cmpD o p q)) fun t => pur (.dat (.bl t))
def cmpE (c : CL) (o : Co) (a b : D) : M Vl := look a fun p => look b fun q => cmpX c o a b p q
def b1E (c : CL) (o : B1) (d p : D) : M Vl :=
  match o, p with
  | .len, .ins cc _ => match c.lenf.getD cc none with
    | some f => c.call f [d]
    | none => bad
  | _, _ => opt (b1D o p)
def tgOwn : Tg → List Nat
  | .nm i => [i]
  | .tp ts => tgOwns ts
where tgOwns : List Tg → List Nat
  | [] => []
  | t :: ts => tgOwn t ++ tgOwns ts
def gsOwn : Gs → List Nat
  | .nil => []
  | .cons t _ _ r => tgOwn t ++ gsOwn r
def unset (ρ : List Sl) : List Nat → List Sl
  | [] => ρ
  | v :: vs => (unset ρ vs).set v .un
def idxOf (q : D) : Nat → List D → Option Nat
  | _, [] => none
  | n, z :: zs => if eqD z q then some n else idxOf q (n + 1) zs
def zipD : D → D → Option (List D)
  | .lst xs, .lst ys => some (zipL xs ys)
  | .tup xs, .tup ys => some (zipL xs ys)
  | _, _ => none
def insOk (c : CL) : D → Bool
  | .ins cc _ => decide (cc < c.flds.length)
  | _ => true
mutual
def ev (c : CL) (ρ : List Sl) (e : E) : M Vl := match e with
  | .con d => pur (.dat d)
  | .var i => match slot ρ i with
    | .dat d => pur (.dat d)
    | _ => bad
  | .bor i => match slot ρ i with
    | .dat d => pur (.dat d)
    | .cel d => pur (.bor d)
    | _ => bad
  | .tup es => bnd (evs c ρ es) fun ds => if ds.length ≤ LINE then pur (.dat (.tup ds)) else bad
  | .lst es => bnd (evs c ρ es) fun ds => if ds.length ≤ LINE then pur (.frs (.lst ds)) else bad
  | .dnil => pur (.frs (.dct []))
  | .done k v => bnd (ev c ρ k) fun x => bnd (opt x.fz) fun a => bnd (ev c ρ v) fun y => bnd (opt y.fz) fun b => if keyOk a then pur (.frs (.dct [(a, b)])) else bad
  | .bin o a b => bnd (ev c ρ a) fun x => bnd (ev c ρ b) fun y => look x.d fun p => look y.d fun q => opt (binD o p q)
  | .neg a => bnd (ev c ρ a) fun x => match x.d with
    | .int i => pur (.dat (.int (-i)))
    | _ => bad
  | .cmp o a b => bnd (ev c ρ a) fun x => bnd (ev c ρ b) fun y => cmpE c o x.d y.d
  | .chn o p a b d => bnd (ev c ρ a) fun x => bnd (ev c ρ b) fun y => bnd (cmpE c o x.d y.d) fun z => match z with
    | .dat (.bl true) => bnd (ev c ρ d) fun w => cmpE c p y.d w.d
    | .dat (.bl false) => pur (.dat (.bl false))
    | _ => bad
  | .and a b => bnd (ev c ρ a) fun x => look x.d fun p => bnd (opt (truthD p)) fun t => if t then ev c ρ b else pur x
  | .or a b => bnd (ev c ρ a) fun x => look x.d fun p => bnd (opt (truthD p)) fun t => if t then pur x else ev c ρ b
  | .not a => bnd (ev c ρ a) fun x => look x.d fun p => bnd (opt (truthD p)) fun t => pur (.dat (.bl (!t)))
  | .ite t a b => bnd (ev c ρ t) fun x => look x.d fun p => bnd (opt (truthD p)) fun t => if t then ev c ρ a else ev c ρ b
  | .idx a i => bnd (ev c ρ a) fun x => bnd (ev c ρ i) fun y => look x.d fun p => bnd (opt (idxD p y.d)) fun d => pur (.dat d)
  | .slc a lo hi => bnd (ev c ρ a) fun x => bnd (evo c ρ lo) fun l => bnd (evo c ρ hi) fun h => look x.d fun p => opt (slcD p l h)
  | .rev a => bnd (ev c ρ a) fun x => look x.d fun p => opt (revD p)
  | .att a k => bnd (ev c ρ a) fun x => look x.d fun p => match p with
    | .ins cc fs => bnd (opt ((ixOf k (c.flds.getD cc [])).bind fun j => fs[j]?)) fun d => pur (.dat d)
    | _ => bad
  | .exa i k => match slot ρ i with
    | .exn cc d => if ixOf k (c.flds.getD cc []) = some 0 then pur (.dat d) else bad
    | _ => bad
  | .call f es => bnd (evs c ρ es) fun ds => c.call f ds
  | .mk cc f es keep => bnd (evs c ρ es) fun ds => fun m =>
    match c.call f (.ref m.length :: ds) (m ++ [.ins cc []]) with
    | .ok _ m' =>
      if keep then .ok (.dat (.ref m.length)) m'
      else if m'.length = m.length + 1 then .ok (.dat (m'.getD m.length .non)) (m'.take m.length) else .bad
    | .exc e d m' => if m'.length = m.length + 1 then .exc e d (m'.take m.length) else .exc e d m'
    | .bad => .bad
  | .met cc f a es => bnd (ev c ρ a) fun x => bnd (evs c ρ es) fun ds => look x.d fun p => match p with
    | .ins c' _ => if c' = cc then c.call f (x.d :: ds) else bad
    | _ => bad
  | .b1 o a => bnd (ev c ρ a) fun x => look x.d fun p => b1E c o x.d p
  | .min2 a b => bnd (ev c ρ a) fun x => bnd (ev c ρ b) fun y => match x.d, y.d with
    | .int i, .int j => pur (.dat (.int (if j < i then j else i)))
    | _, _ => bad
  | .max2 a b => bnd (ev c ρ a) fun x => bnd (ev c ρ b) fun y => match x.d, y.d with
    | .int i, .int j => pur (.dat (.int (if j > i then j else i)))
    | _, _ => bad
  | .lrng a b => bnd (ev c ρ a) fun x => bnd (ev c ρ b) fun y => match x.d, y.d with
    | .int i, .int j => if inRange i && inRange j && decide ((j - i).toNat ≤ LINE) then pur (.frs (.lst (rngL (j - i).toNat i))) else bad
    | _, _ => bad
  | .isi a t => bnd (ev c ρ a) fun x => if noRef x.d && insOk c x.d then bnd (opt (isiD t x.d)) fun b => pur (.dat (.bl b)) else bad
  | .dget a k => bnd (ev c ρ a) fun x => match x.d with
    | .dct kvs => bnd (ev c ρ k) fun y => if keyOk y.d then pur (.dat ((assoc kvs y.d).getD .non)) else bad
    | _ => bad
  | .dgetd a k d => bnd (ev c ρ a) fun x => match x.d with
    | .dct kvs => bnd (ev c ρ k) fun y => bnd (ev c ρ d) fun v => bnd (opt v.fz) fun w => if keyOk y.d then pur (.dat ((assoc kvs y.d).getD w)) else bad
    | _ => bad
  | .index a x => bnd (ev c ρ a) fun l => match l.d with
    | .lst xs => bnd (ev c ρ x) fun y => look y.d fun q => if plain64 q && plain64 (.lst xs) then bnd (opt (idxOf q 0 xs)) fun j => pur (.dat (.int j)) else bad
    | _ => bad
  | .comp elt g => nox (bnd (evg c ρ (gsOwn g) g fun ρ' => bnd (ev c ρ' elt) fun v => bnd (opt v.fz) fun d => pur [d]) fun ds => if ds.length ≤ LINE then pur (.frs (.lst ds)) else bad)
  | .dcomp k v g => nox (bnd (evg c ρ (gsOwn g) g fun ρ' => bnd (ev c ρ' k) fun x => bnd (ev c ρ' v) fun y => bnd (opt x.fz) fun a => bnd (opt y.fz) fun b => if keyOk a then pur [.tup [a, b]] else bad)
      fun ds => if ds.length ≤ LINE then pur (.frs (.dct (dputs [] ds))) else bad)
  | .sto e => bnd (ev c ρ e) fun v => match v with
    | .frs d => fun m => .ok (.dat (.ref m.length)) (m ++ [d])
    | _ => bad
termination_by structural e
def evo (c : CL) (ρ : List Sl) (e : Eo) : M (Option Int) := match e with
  | .no => pur none
  | .so e => bnd (ev c ρ e) fun x => match x.d with
    | .int i => pur (some i)
    | _ => bad
termination_by structural e
def evs (c : CL) (ρ : List Sl) (e : Es) : M (List D) := match e with
  | .nil => pur []
  | .cons false e r => bnd (ev c ρ e) fun v => bnd (opt v.fz) fun d => bnd (evs c ρ r) fun ds => pur (d :: ds)
  | .cons true e r => bnd (ev c ρ e) fun v => bnd (opt (seqOf v.d)) fun xs => bnd (evs c ρ r) fun ds => pur (xs ++ ds)
termination_by structural e
def evi (c : CL) (ρ : List Sl) (e : It) : M (List D) := match e with
  | .rng a b => bnd (ev c ρ a) fun x => bnd (ev c ρ b) fun y => match x.d, y.d with
    | .int i, .int j => if inRange i && inRange j then pur (rngL (j - i).toNat i) else bad
    | _, _ => bad
  | .seq e => bnd (ev c ρ e) fun v => bnd (opt v.fz) fun d => opt (seqOf d)
  | .enum e => bnd (ev c ρ e) fun v => bnd (opt v.fz) fun d => bnd (opt (lstOf d)) fun xs => pur (enumL 0 xs)
  | .zip a b => bnd (ev c ρ a) fun x => bnd (opt x.fz) fun p => bnd (ev c ρ b) fun y => bnd (opt y.fz) fun q => opt (zipD p q)
termination_by structural e
def evg (c : CL) (ρ : List Sl) (own : List Nat) (e : Gs) (k : List Sl → M (List D)) : M (List D) := match e with
  | .nil => k ρ
  | .cons t it cs r => bnd (evi c ρ it) fun xs => mapC (fun x => bnd (opt (asgT t (.dat x) (unset ρ own))) fun ρ' => bnd (evt c ρ' cs) fun b => if b then evg c ρ' [] r k else pur []) xs
termination_by structural e
def evt (c : CL) (ρ : List Sl) (e : Es) : M Bool := match e with
  | .nil => pur true
  | .cons _ e r => bnd (ev c ρ e) fun x => look x.d fun p => bnd (opt (truthD p)) fun t => if t then evt c ρ r else pur false
termination_by structural e
end
def evF (c : CL) (ρ : List Sl) (t : E) : M D := bnd (ev c ρ t) fun v => opt v.fz
def evb (c : CL) (ρ : List Sl) (e : E) : M Bool := bnd (ev c ρ e) fun x => look x.d fun p => opt (truthD p)
inductive Fl where
  | nx (ρ : List Sl) | ret (v : Vl) | brk (ρ : List Sl) | cont (ρ : List Sl) | exc (c : Nat) (d : D) (ρ : List Sl)
def lift {α : Type} (x : M α) (ρ : List Sl) (f : α → M Fl) : M Fl := fun m =>
  match x m with
  | .ok a m' => f a m'
  | .exc c d m' => .ok (.exc c d ρ) m'
  | .bad => .bad
def forB (f : List Sl → D → M Fl) : List D → List Sl → M Fl
  | [], ρ => pur (.nx ρ)
  | x :: xs, ρ => bnd (f ρ x) fun fl => match fl with
    | .nx ρ' => forB f xs ρ'
    | .cont ρ' => forB f xs ρ'
    | .brk ρ' => pur (.nx ρ')
    | .ret v => pur (.ret v)
    | .exc c d ρ' => pur (.exc c d ρ')
def whlB (t : List Sl → M Bool) (f : List Sl → M Fl) : Nat → List Sl → M Fl
  | 0, _ => bad
  | n + 1, ρ => lift (t ρ) ρ fun b => if b then
      bnd (f ρ) fun fl => match fl with
      | .nx ρ' => whlB t f n ρ'
      | .cont ρ' => whlB t f n ρ'
      | .brk ρ' => pur (.nx ρ')
      | .ret v => pur (.ret v)
      | .exc c d ρ' => pur (.exc c d ρ')
    else pur (.nx ρ)
def WF : Nat := 1000000
def gone (i : Nat) : Fl → M Fl
  | .nx ρ => pur (.nx (ρ.set i .un))
  | .brk ρ => pur (.brk (ρ.set i .un))
  | .cont ρ => pur (.cont (ρ.set i .un))
  | .ret v => pur (.ret v)
  | .exc _ _ _ => bad
def nxt (ρ : List Sl) : M Fl := pur (.nx ρ)
def mset (n : Nat) (d : D) : M Unit := fun m => if n < m.length then .ok () (m.set n d) else .bad
def putD (p k v : D) : Option D :=
  match p, k with
  | .lst xs, .int j => (place xs.length j).map fun n => .lst (xs.set n v)
  | .dct kvs, k => if keyOk k && decide (kvs.length < LINE) then some (.dct (dput kvs k v)) else none
  | _, _ => none
def popD : D → Option (D × D)
  | .lst xs => match xs.getLast? with
    | some x => some (x, .lst xs.dropLast)
    | none => none
  | _ => none
def appD : D → D → Option D
  | .lst xs, d => if xs.length < LINE then some (.lst (xs ++ [d])) else none
  | _, _ => none
def extD : D → D → Option D
  | .lst xs, .lst ys => if xs.length + ys.length ≤ LINE then some (.lst (xs ++ ys)) else none
  | _, _ => none
def sdefD : D → D → D → Option D
  | .dct kvs, k, v => if keyOk k && decide (kvs.length < LINE) then some (if (assoc kvs k).isSome then .dct kvs else .dct (dput kvs k v)) else none
  | _, _, _ => none
def setF (j : Nat) (v : D) (fs : List D) : Option (List D) := if j < fs.length then some (fs.set j v) else if j = fs.length then some (fs ++ [v]) else none
def refOf : D → Option Nat
  | .ref n => some n
  | _ => none
def celOf : Sl → Option D
  | .cel d => some d
  | _ => none
mutual
def exS (c : CL) (ρ : List Sl) (s : S) : M Fl := match s with
  | .asg t e => lift (ev c ρ e) ρ fun v => bnd (opt (asgT t v ρ)) nxt
  | .seti i k v => match slot ρ i with
    | .cel p => lift (evF c ρ v) ρ fun d => lift (evF c ρ k) ρ fun a => bnd (opt (putD p a d)) fun q => nxt (ρ.set i (.cel q))
    | _ => bad
  | .setr a k v => lift (evF c ρ v) ρ fun d => lift (evF c ρ a) ρ fun o => lift (evF c ρ k) ρ fun kk => bnd (opt (refOf o)) fun n => look o fun p =>
      bnd (opt (putD p kk d)) fun q => bnd (mset n q) fun _ => nxt ρ
  | .seta a k v => lift (evF c ρ v) ρ fun d => lift (evF c ρ a) ρ fun o => bnd (opt (refOf o)) fun n => look o fun p => match p with
    | .ins cc fs => bnd (opt ((ixOf k (c.flds.getD cc [])).bind fun j => setF j d fs)) fun gs => bnd (mset n (.ins cc gs)) fun _ => nxt ρ
    | _ => bad
  | .aug i o e => match slot ρ i with
    | .dat (.int x) => lift (ev c ρ e) ρ fun v => match o, v.d with
      | .add, .int y => nxt (ρ.set i (.dat (.int (x + y))))
      | .sub, .int y => nxt (ρ.set i (.dat (.int (x - y))))
      | _, _ => bad
    | _ => bad
  | .augr a k o e => lift (evF c ρ a) ρ fun l => lift (evF c ρ k) ρ fun j => bnd (opt (refOf l)) fun n => look l fun p => bnd (opt (idxD p j)) fun x => lift (evF c ρ e) ρ fun v => match o, x, v with
    | .add, .int x, .int y => look l fun p2 => bnd (opt (putD p2 j (.int (x + y)))) fun q => bnd (mset n q) fun _ => nxt ρ
    | _, _, _ => bad
  | .app i e => match slot ρ i with
    | .cel (.lst xs) => lift (evF c ρ e) ρ fun d => bnd (opt (appD (.lst xs) d)) fun q => nxt (ρ.set i (.cel q))
    | _ => bad
  | .appr a e => lift (evF c ρ a) ρ fun l => lift (evF c ρ e) ρ fun d => bnd (opt (refOf l)) fun n => look l fun p => bnd (opt (appD p d)) fun q => bnd (mset n q) fun _ => nxt ρ
  | .ext i e => lift (evF c ρ e) ρ fun d => bnd (opt (celOf (slot ρ i))) fun p => bnd (opt (extD p d)) fun q => nxt (ρ.set i (.cel q))
  | .pop t i => bnd (opt (celOf (slot ρ i))) fun p => bnd (opt (popD p)) fun q => bnd (opt (asgT t (.dat q.1) (ρ.set i (.cel q.2)))) nxt
  | .popr t a => lift (evF c ρ a) ρ fun l => bnd (opt (refOf l)) fun n => look l fun p => bnd (opt (popD p)) fun q => bnd (mset n q.2) fun _ => bnd (opt (asgT t (.dat q.1) ρ)) nxt
  | .sdef i k v => match slot ρ i with
    | .cel (.dct kvs) => lift (evF c ρ k) ρ fun a => lift (evF c ρ v) ρ fun d => bnd (opt (sdefD (.dct kvs) a d)) fun q => nxt (ρ.set i (.cel q))
    | _ => bad
  | .expr e => lift (ev c ρ e) ρ fun _ => nxt ρ
  | .ite t a b => lift (evb c ρ t) ρ fun r => if r then exSs c ρ a else exSs c ρ b
  | .for_ t it b => lift (evi c ρ it) ρ fun xs => forB (fun ρ' x => bnd (opt (asgT t (.dat x) ρ')) fun ρ2 => exSs c ρ2 b) xs ρ
  | .whl t b => whlB (fun ρ' => evb c ρ' t) (fun ρ' => exSs c ρ' b) WF ρ
  | .ret e => lift (ev c ρ e) ρ fun v => match v with
    | .bor _ => bad
    | v => pur (.ret v)
  | .retb i => match slot ρ i with
    | .dat d => pur (.ret (.dat d))
    | .cel d => pur (.ret (.frs d))
    | _ => bad
  | .retn => pur (.ret (.dat .non))
  | .raise cc e => lift (evF c ρ e) ρ fun d => pur (.exc cc d ρ)
  | .try_ b hs => bnd (exSs c ρ b) fun fl => match fl with
    | .exc cc d ρ' => exHs c ρ' hs cc d
    | .nx ρ' => pur (.nx ρ')
    | .ret v => pur (.ret v)
    | .brk ρ' => pur (.brk ρ')
    | .cont ρ' => pur (.cont ρ')
  | .pass => nxt ρ
  | .brk => pur (.brk ρ)
  | .cont => pur (.cont ρ)
  | .frz i => match slot ρ i with
    | .cel d => nxt (ρ.set i (.dat d))
    | .dat d => nxt ρ
    | _ => bad
termination_by structural s
def exSs (c : CL) (ρ : List Sl) (ss : Ss) : M Fl := match ss with
  | .nil => nxt ρ
  | .cons s r => bnd (exS c ρ s) fun fl => match fl with
    | .nx ρ' => exSs c ρ' r
    | .ret v => pur (.ret v)
    | .brk ρ' => pur (.brk ρ')
    | .cont ρ' => pur (.cont ρ')
    | .exc cc d ρ' => pur (.exc cc d ρ')
termination_by structural ss
def exHs (c : CL) (ρ : List Sl) (hs : Hs) (cc : Nat) (d : D) : M Fl := match hs with
  | .nil => pur (.exc cc d ρ)
  | .cons c2 i b r => if cc = c2 then bnd (if i < ρ.length then exSs c (ρ.set i (.exn cc d)) b else bad) (gone i) else exHs c ρ r cc d
termination_by structural hs
end
structure FD where
  np : Nat
  nl : Nat
  body : Ss
def startS (fd : FD) (ds : List D) : List Sl := ds.map .dat ++ List.replicate (fd.nl - fd.np) .un
def runF (c : CL) (fd : FD) (ds : List D) : M Vl := fun m =>
  if ds.length = fd.np then
    match exSs c (startS fd ds) fd.body m with
    | .ok (.nx _) m' => .ok (.dat .non) m'
    | .ok (.ret v) m' => .ok v m'
    | .ok (.exc e d _) m' => .exc e d m'
    | _ => .bad
  else .bad
structure Prog where
  fn : Nat → Option FD
  flds : List (List Nat)
  lenf : List (Option Nat)
  eqf : List (Option Nat)
def callN (P : Prog) : Nat → Nat → List D → M Vl
  | 0, _, _ => bad
  | n + 1, f, ds => match P.fn f with
    | some fd => runF ⟨callN P n, P.flds, P.lenf, P.eqf⟩ fd ds
    | none => bad
abbrev Prog.cl (P : Prog) (n : Nat) : CL := ⟨callN P n, P.flds, P.lenf, P.eqf⟩
end MW
namespace MW
open PySem (Str)
mutual
def sm : D → D → Bool
  | .non, .non => true
  | .bl a, .bl b => a == b
  | .int i, .int j => i == j
  | .str x, .str y => x == y
  | .tup xs, .tup ys => sms xs ys
  | .lst xs, .lst ys => sms xs ys
  | .dct xs, .dct ys => smk xs ys
  | _, _ => false
def sms : List D → List D → Bool
  | [], [] => true
  | x :: xs, y :: ys => sm x y && sms xs ys
  | _, _ => false
def smk : List (D × D) → List (D × D) → Bool
  | [], [] => true
  | (a, b) :: xs, (c, d) :: ys => sm a c && sm b d && smk xs ys
  | _, _ => false
end
mutual
theorem sm_eq : ∀ (a b : D), sm a b = true → a = b
  | .non, b, h => by cases b <;> first | rfl | exact absurd (show false = true from h) Bool.false_ne_true
  | .bl x, b, h => by
    cases b <;> first | exact absurd (show false = true from h) Bool.false_ne_true | skip
    have q := eq_of_beq (show (_ == _) = true from h); rw [q]
  | .int x, b, h => by
    cases b <;> first | exact absurd (show false = true from h) Bool.false_ne_true | skip
    have q := eq_of_beq (show (_ == _) = true from h); rw [q]
  | .str x, b, h => by
    cases b <;> first | exact absurd (show false = true from h) Bool.false_ne_true | skip
    have q := eq_of_beq (show (_ == _) = true from h); rw [q]
  | .tup xs, b, h => by
    cases b <;> first | exact absurd (show false = true from h) Bool.false_ne_true | skip
    simp only [sm] at h
    rw [sms_eq xs _ h]
  | .lst xs, b, h => by
    cases b <;> first | exact absurd (show false = true from h) Bool.false_ne_true | skip
    simp only [sm] at h
    rw [sms_eq xs _ h]
  | .dct xs, b, h => by
    cases b <;> first | exact absurd (show false = true from h) Bool.false_ne_true | skip
    simp only [sm] at h
    rw [smk_eq xs _ h]
  | .ins _ _, b, h => by cases b <;> exact absurd (show false = true from h) Bool.false_ne_true
  | .ref _, b, h => by cases b <;> exact absurd (show false = true from h) Bool.false_ne_true
  | .scr _, b, h => by cases b <;> exact absurd (show false = true from h) Bool.false_ne_true
theorem sms_eq : ∀ (a b : List D), sms a b = true → a = b
  | [], b, h => by cases b with
    | nil => rfl
    | cons _ _ => simp [sms] at h
  | x :: xs, b, h => by cases b with
    | nil => simp [sms] at h
    | cons y ys =>
      simp only [sms, Bool.and_eq_true] at h
      rw [sm_eq x y h.1, sms_eq xs ys h.2]
theorem smk_eq : ∀ (a b : List (D × D)), smk a b = true → a = b
  | [], b, h => by cases b with
    | nil => rfl
    | cons _ _ => simp [smk] at h
  | (x, u) :: xs, b, h => by cases b with
    | nil => simp [smk] at h
    | cons y ys =>
      obtain ⟨y1, y2⟩ := y
      simp only [smk, Bool.and_eq_true] at h
      rw [sm_eq x y1 h.1.1, sm_eq u y2 h.1.2, smk_eq xs ys h.2]
end
def smS : Sl → Sl → Bool
  | .un, .un => true
  | .dat a, .dat b => sm a b
  | .cel a, .cel b => sm a b
  | _, _ => false
theorem smS_eq {a b : Sl} (h : smS a b = true) : a = b := by
  cases a <;> cases b <;> first | rfl | exact absurd (show false = true from h) Bool.false_ne_true | (rw [sm_eq _ _ h])
def smE : List Sl → List Sl → Bool
  | [], [] => true
  | x :: xs, y :: ys => smS x y && smE xs ys
  | _, _ => false
theorem smE_eq : ∀ {a b : List Sl}, smE a b = true → a = b
  | [], [], _ => rfl
  | [], _ :: _, h => by simp [smE] at h
  | _ :: _, [], h => by simp [smE] at h
  | x :: xs, y :: ys, h => by
    simp only [smE, Bool.and_eq_true] at h
    rw [smS_eq h.1, smE_eq h.2]
def smV : Vl → Vl → Bool
  | .dat a, .dat b => sm a b
  | .frs a, .frs b => sm a b
  | _, _ => false
theorem smV_eq {a b : Vl} (h : smV a b = true) : a = b := by
  cases a <;> cases b <;> first | exact absurd (show false = true from h) Bool.false_ne_true | (rw [sm_eq _ _ h])
def inS (r : Res (List Sl)) (b : List Sl) : Bool := match r with
  | .ok a [] => smE a b
  | _ => false
theorem inS_eq {r : Res (List Sl)} {b : List Sl} (h : inS r b = true) : r = .ok b [] := by
  cases r with
  | ok a m => cases m with
    | nil => rw [smE_eq h]
    | cons _ _ => exact absurd (show false = true from h) Bool.false_ne_true
  | exc _ _ _ => exact absurd (show false = true from h) Bool.false_ne_true
  | bad => exact absurd (show false = true from h) Bool.false_ne_true
def inV (r : Res Vl) (b : Vl) : Bool := match r with
  | .ok a [] => smV a b
  | _ => false
theorem inV_eq {r : Res Vl} {b : Vl} (h : inV r b = true) : r = .ok b [] := by
  cases r with
  | ok a m => cases m with
    | nil => rw [smV_eq h]
    | cons _ _ => exact absurd (show false = true from h) Bool.false_ne_true
  | exc _ _ _ => exact absurd (show false = true from h) Bool.false_ne_true
  | bad => exact absurd (show false = true from h) Bool.false_ne_true
def thru (x : M Fl) : M (List Sl) := fun m => match x m with
  | .ok (.nx ρ) m' => .ok ρ m'
  | _ => .bad
theorem thru_eq {x : M Fl} {m m' : Mu} {ρ : List Sl} (h : thru x m = .ok ρ m') : x m = .ok (.nx ρ) m' := by
  unfold thru at h
  cases e : x m with
  | ok fl m1 =>
    rw [e] at h
    cases fl <;> first | (cases h; rfl) | cases h
  | exc _ _ _ => rw [e] at h; cases h
  | bad => rw [e] at h; cases h
def whlR (t : List Sl → M Bool) (f : List Sl → M Fl) : Nat → List Sl → M (List Sl)
  | 0, ρ => pur ρ
  | n + 1, ρ => fun m => match t ρ m with
    | .ok true m1 => match thru (f ρ) m1 with
      | .ok ρ' m2 => whlR t f n ρ' m2
      | _ => .bad
    | _ => .bad
theorem whlR_eq {t : List Sl → M Bool} {f : List Sl → M Fl} {N : Nat} : ∀ {n : Nat} {ρ ρ' : List Sl} {m m' : Mu}, whlR t f n ρ m = .ok ρ' m' → whlB t f (N + n) ρ m = whlB t f N ρ' m'
  | 0, ρ, ρ', m, m', h => by cases h; rfl
  | n + 1, ρ, ρ', m, m', h => by
    simp only [whlR] at h
    cases e : t ρ m with
    | ok b m1 =>
      rw [e] at h
      cases b with
      | false => cases h
      | true =>
        simp only [] at h
        cases e2 : thru (f ρ) m1 with
        | ok ρ2 m2 =>
          rw [e2] at h
          have e3 := thru_eq e2
          have ih := whlR_eq (N := N) (t := t) (f := f) h
          show whlB t f ((N + n) + 1) ρ m = _
          simp only [whlB, lift, e, bnd, if_true, e3]
          exact ih
        | exc _ _ _ => rw [e2] at h; cases h
        | bad => rw [e2] at h; cases h
    | exc _ _ _ => rw [e] at h; cases h
    | bad => rw [e] at h; cases h
def forR (f : List Sl → D → M Fl) : List D → List Sl → M (List Sl)
  | [], ρ => pur ρ
  | x :: xs, ρ => fun m => match thru (f ρ x) m with
    | .ok ρ' m' => forR f xs ρ' m'
    | _ => .bad
theorem forR_eq {f : List Sl → D → M Fl} {ys : List D} : ∀ {xs : List D} {ρ ρ' : List Sl} {m m' : Mu}, forR f xs ρ m = .ok ρ' m' → forB f (xs ++ ys) ρ m = forB f ys ρ' m'
  | [], ρ, ρ', m, m', h => by cases h; rfl
  | x :: xs, ρ, ρ', m, m', h => by
    simp only [forR] at h
    cases e2 : thru (f ρ x) m with
    | ok ρ2 m2 =>
      rw [e2] at h
      have e3 := thru_eq e2
      have ih := forR_eq (ys := ys) (f := f) h
      show forB f (x :: (xs ++ ys)) ρ m = _
      simp only [forB, bnd, e3]
      exact ih
    | exc _ _ _ => rw [e2] at h; cases h
    | bad => rw [e2] at h; cases h
theorem exSs_step {c : CL} {ρ ρ' : List Sl} {s : S} {r : Ss} {m m' : Mu} (h : exS c ρ s m = .ok (.nx ρ') m') : exSs c ρ (.cons s r) m = exSs c ρ' r m' := by
  simp only [exSs, bnd, h]
def nthS : Ss → Nat → S
  | .nil, _ => .pass
  | .cons s _, 0 => s
  | .cons _ r, n + 1 => nthS r n
def forG : S → Tg
  | .for_ t _ _ => t
  | _ => .tp []
def brkd (x : M Fl) : M (List Sl) := fun m => match x m with
  | .ok (.brk ρ) m' => .ok ρ m'
  | _ => .bad
theorem brkd_eq {x : M Fl} {m m' : Mu} {ρ : List Sl} (h : brkd x m = .ok ρ m') : x m = .ok (.brk ρ) m' := by
  unfold brkd at h
  cases e : x m with
  | ok fl m1 =>
    rw [e] at h
    cases fl <;> first | (cases h; rfl) | cases h
  | exc _ _ _ => rw [e] at h; cases h
  | bad => rw [e] at h; cases h
theorem forB_brk {f : List Sl → D → M Fl} {x : D} {xs : List D} {ρ ρ' : List Sl} {m m' : Mu} (h : brkd (f ρ x) m = .ok ρ' m') : forB f (x :: xs) ρ m = .ok (.nx ρ') m' := by
  have e := brkd_eq h
  simp only [forB, bnd, e, pur]
def whlT : S → E
  | .whl t _ => t
  | _ => .dnil
def whlD : S → Ss
  | .whl _ b => b
  | .for_ _ _ b => b
  | _ => .nil
def dropS : Nat → Ss → Ss
  | 0, b => b
  | _ + 1, .nil => .nil
  | n + 1, .cons _ r => dropS n r
def inR (r : Res Fl) (b : Vl) : Bool := match r with
  | .ok (.ret a) [] => smV a b
  | _ => false
theorem inR_eq {r : Res Fl} {b : Vl} (h : inR r b = true) : r = .ok (.ret b) [] := by
  cases r with
  | ok a m => cases a <;> first | exact absurd (show false = true from h) Bool.false_ne_true | (cases m with
    | nil => rw [smV_eq h]
    | cons _ _ => exact absurd (show false = true from h) Bool.false_ne_true)
  | exc _ _ _ => exact absurd (show false = true from h) Bool.false_ne_true
  | bad => exact absurd (show false = true from h) Bool.false_ne_true
def inL (r : Res (List D)) (b : List D) : Bool := match r with
  | .ok a [] => sms a b
  | _ => false
theorem inL_eq {r : Res (List D)} {b : List D} (h : inL r b = true) : r = .ok b [] := by
  cases r with
  | ok a m => cases m with
    | nil => rw [sms_eq _ _ h]
    | cons _ _ => exact absurd (show false = true from h) Bool.false_ne_true
  | exc _ _ _ => exact absurd (show false = true from h) Bool.false_ne_true
  | bad => exact absurd (show false = true from h) Bool.false_ne_true
def inB (r : Res Bool) (b : Bool) : Bool := match r with
  | .ok a [] => a == b
  | _ => false
theorem inB_eq {r : Res Bool} {b : Bool} (h : inB r b = true) : r = .ok b [] := by
  cases r with
  | ok a m => cases m with
    | nil => rw [eq_of_beq (show (a == b) = true from h)]
    | cons _ _ => exact absurd (show false = true from h) Bool.false_ne_true
  | exc _ _ _ => exact absurd (show false = true from h) Bool.false_ne_true
  | bad => exact absurd (show false = true from h) Bool.false_ne_true
def inO (r : Option (List Sl)) (b : List Sl) : Bool := match r with
  | some a => smE a b
  | none => false
theorem inO_eq {r : Option (List Sl)} {b : List Sl} (h : inO r b = true) : r = some b := by
  cases r with
  | none => exact absurd (show false = true from h) Bool.false_ne_true
  | some a => rw [smE_eq h]
section
variable {c : CL} {ρ ρ' : List Sl} {m m' : Mu} {b : Ss}
theorem at_st (n : Nat) (hd : dropS n b = .cons (nthS b n) (dropS (n + 1) b)) (h : inS (thru (exS c ρ (nthS b n)) []) ρ' = true) : exSs c ρ (dropS n b) [] = exSs c ρ' (dropS (n + 1) b) [] := by
  rw [hd]
  exact exSs_step (thru_eq (inS_eq h))
theorem whl_cut {t : List Sl → M Bool} {f : List Sl → M Fl} {k : Nat} (N : Nat) (h : inS (whlR t f k ρ []) ρ' = true) : whlB t f (N + k) ρ [] = whlB t f N ρ' [] := whlR_eq (inS_eq h)
theorem whl_cutE {t : List Sl → M Bool} {f : List Sl → M Fl} {k M : Nat} (N : Nat) (e : M = N + k) (h : inS (whlR t f k ρ []) ρ' = true) : whlB t f M ρ [] = whlB t f N ρ' [] := by
  rw [e]; exact whlR_eq (inS_eq h)
theorem at_whl {N M : Nat} (n : Nat) (hM : M = N + 1) (hd : dropS n b = .cons (.whl (whlT (nthS b n)) (whlD (nthS b n))) (dropS (n + 1) b)) (h : whlB (fun ρ => evb c ρ (whlT (nthS b n))) (fun ρ => exSs c ρ (whlD (nthS b n))) 1000000 ρ [] = whlB (fun ρ => evb c ρ (whlT (nthS b n))) (fun ρ => exSs c ρ (whlD (nthS b n))) M ρ' []) (ht : inB (evb c ρ' (whlT (nthS b n)) []) false = true) :
    exSs c ρ (dropS n b) [] = exSs c ρ' (dropS (n + 1) b) [] := by
  rw [hd]
  refine exSs_step ?_
  show whlB (fun ρ => evb c ρ (whlT (nthS b n))) (fun ρ => exSs c ρ (whlD (nthS b n))) 1000000 ρ [] = _
  rw [h, hM]
  simp only [whlB, lift, inB_eq ht]
  rfl
theorem rngL_add : ∀ (a : Nat) (d : Nat) (lo : Int), rngL (a + d) lo = rngL a lo ++ rngL d (lo + a)
  | 0, d, lo => by simp [rngL]
  | a + 1, d, lo => by
    rw [show a + 1 + d = (a + d) + 1 from by omega]
    simp only [rngL, List.cons_append]
    rw [rngL_add a d (lo + 1)]
    congr 3
    omega
theorem for_cut {f : List Sl → D → M Fl} {lo : Int} (a d : Nat) (h : inS (forR f (rngL a lo) ρ []) ρ' = true) : forB f (rngL (a + d) lo) ρ [] = forB f (rngL d (lo + a)) ρ' [] := by
  rw [rngL_add]
  exact forR_eq (inS_eq h)
theorem for_end {f : List Sl → D → M Fl} {lo : Int} : forB f (rngL 0 lo) ρ [] = .ok (.nx ρ) [] := rfl
theorem for_brk {f : List Sl → D → M Fl} {lo : Int} (d : Nat) (h : inS (brkd (f ρ (.int lo)) []) ρ' = true) : forB f (rngL (d + 1) lo) ρ [] = .ok (.nx ρ') [] := forB_brk (inS_eq h)
theorem at_for (n : Nat) {xs : List D} {it : It} (hd : dropS n b = .cons (.for_ (forG (nthS b n)) it (whlD (nthS b n))) (dropS (n + 1) b)) (hi : inL (evi c ρ it []) xs = true)
    (h : forB (fun ρ x => bnd (opt (asgT (forG (nthS b n)) (.dat x) ρ)) fun ρ2 => exSs c ρ2 (whlD (nthS b n))) xs ρ [] = .ok (.nx ρ') []) : exSs c ρ (dropS n b) [] = exSs c ρ' (dropS (n + 1) b) [] := by
  rw [hd]
  refine exSs_step ?_
  simp only [exS, lift, inL_eq hi]
  exact h
theorem at_call (n : Nat) {t : Tg} {f : Nat} {es : Es} {ds : List D} {v : Vl} (hd : dropS n b = .cons (.asg t (.call f es)) (dropS (n + 1) b)) (h1 : inL (evs c ρ es []) ds = true) (h2 : c.call f ds [] = .ok v []) (h3 : inO (asgT t v ρ) ρ' = true) : exSs c ρ (dropS n b) [] = exSs c ρ' (dropS (n + 1) b) [] := by
  rw [hd]
  refine exSs_step ?_
  simp only [exS, ev, lift, bnd, inL_eq h1, h2, inO_eq h3, opt, pur, nxt]
theorem call_ret {P : Prog} {n f : Nat} {fd : FD} {ds : List D} {v : Vl} (e : P.fn f = some fd) (hl : ds.length = fd.np) (h : exSs (P.cl n) (startS fd ds) (dropS 0 fd.body) [] = .ok (.ret v) []) : callN P (n + 1) f ds [] = .ok v [] := by
  have h' : exSs (P.cl n) (startS fd ds) fd.body [] = .ok (.ret v) [] := h
  simp only [callN, e]
  unfold runF
  rw [if_pos hl]
  simp only [h']
end
end MW
namespace MW
open PySem PySem.Spec PyProof.Rows L2
abbrev Kd := NestedKey
mutual
def normK : D → Option Kd
  | .non => some .none
  | .int i => some (.num i)
  | .bl b => some (.num (if b = true then 1 else 0))
  | .str x => some (.text x)
  | .tup xs => (normKs xs).map .tup
  | _ => none
def normKs : List D → Option (List Kd)
  | [] => some []
  | x :: xs => (normK x).bind fun k => (normKs xs).map (k :: ·)
end
def dicOk (P : Program) (w : World) (a : Addr) (xs : List (Kd × Addr × V)) (h : Heap) : Prop :=
  (a == sysModules) = false ∧ xs.length ≤ sizeLine ∧ (xs.map (·.1)).Nodup ∧
    ∃ (o : Obj) (es : Array DictEntry) (ep : _) (ys : List (Kd × Addr × Value)), h.get? a = some o ∧ o.ExactDict ∧ o.data = .dict es ep ∧
      Paired (fun (p : Kd × Addr × V) (q : Kd × Addr × Value) => p.1 = q.1 ∧ p.2.1 = q.2.1 ∧ RelV p.2.2 q.2.2) xs ys ∧ es.toList = ys.map (entryOfKey (nestedKind P w))
def dicHO (P : Program) (w : World) (a : Addr) (xs : List (Kd × Addr × V)) : HO := .ext (dicOk P w a xs)
structure GX where
  P : Program
  w : World
  K : PySem.W.Frag
  cls : Nat → Addr
  att : List Str
  flds : List (List Nat)
def GX.names (Γ : GX) (c : Nat) : List Str := (Γ.flds.getD c []).map fun k => Γ.att.getD k Str.empty
mutual
def Rep (Γ : GX) (G : Hp) (α : List Addr) : D → V → Prop
  | .non, v => v = .non
  | .bl b, v => v = .bl b
  | .int i, v => v = .int i
  | .str x, v => v = .str x
  | .tup xs, v => ∃ a vs, v = .ref a ∧ G a = some (.tup vs) ∧ RepL Γ G α xs vs
  | .lst xs, v => ∃ a vs, v = .ref a ∧ G a = some (.lst vs) ∧ RepL Γ G α xs vs
  | .scr xs, v => ∃ a, v = .ref a ∧ SqL Γ.K G a (xs.map V.int)
  | .dct kvs, v => ∃ a es, v = .ref a ∧ Rd G a (dicHO Γ.P Γ.w a es) ∧ RepK Γ G α kvs es
  | .ins c fs, v => ∃ a dx vs, v = .ref a ∧ G a = some (.ins (Γ.cls c) dx ((Γ.names c).zip vs)) ∧ fs.length ≤ (Γ.names c).length ∧ RepL Γ G α fs vs
  | .ref n, v => ∃ a, α[n]? = some a ∧ v = .ref a
def RepL (Γ : GX) (G : Hp) (α : List Addr) : List D → List V → Prop
  | [], vs => vs = []
  | x :: xs, vs => ∃ v r, vs = v :: r ∧ Rep Γ G α x v ∧ RepL Γ G α xs r
def RepP (Γ : GX) (G : Hp) (α : List Addr) : D × D → Kd × Addr × V → Prop
  | (k, d), e => (keyOk k = true ∧ normK k = some e.1) ∧ Rep Γ G α k (.ref e.2.1) ∧ Rep Γ G α d e.2.2
def RepK (Γ : GX) (G : Hp) (α : List Addr) : List (D × D) → List (Kd × Addr × V) → Prop
  | [], es => es = []
  | p :: r, es => ∃ e er, es = e :: er ∧ RepP Γ G α p e ∧ RepK Γ G α r er
end
def Own (Γ : GX) (G H : Hp) (α : List Addr) (p : Addr) : D → Prop
  | .lst xs => ∃ vs, H p = some (.lst vs) ∧ RepL Γ G α xs vs
  | .dct kvs => ∃ es, H p = some (dicHO Γ.P Γ.w p es) ∧ RepK Γ G α kvs es
  | .ins c fs => ∃ dx vs, H p = some (.ins (Γ.cls c) dx ((Γ.names c).zip vs)) ∧ fs.length ≤ (Γ.names c).length ∧ RepL Γ G α fs vs
  | _ => False
def Le (G G' : Hp) : Prop := ∀ a o, G a = some o → G' a = some o ∨ ((∃ φ, o = .ext φ) ∧ ∃ ob, G' a = some (.frz ob o))
def Pre (α α' : List Addr) : Prop := ∃ β, α' = α ++ β
theorem Le.refl (G : Hp) : Le G G := fun _ _ h => .inl h
theorem Le.trans {G G1 G2 : Hp} (a : Le G G1) (b : Le G1 G2) : Le G G2 := fun x o h => by
  rcases a x o h with h | ⟨⟨φ, e⟩, ob, h⟩
  · exact b x o h
  · rcases b x _ h with h2 | ⟨⟨ψ, e2⟩, _, _⟩
    · exact .inr ⟨⟨φ, e⟩, ob, h2⟩
    · cases e2
theorem Le.rd {G G' : Hp} (l : Le G G') {a : Addr} {u : HO} (h : Rd G a u) : Rd G' a u := by
  rcases h with h | ⟨o, h⟩
  · rcases l a u h with h | ⟨_, ob, h⟩
    · exact .inl h
    · exact .inr ⟨ob, h⟩
  · rcases l a _ h with h | ⟨⟨φ, e⟩, _, _⟩
    · exact .inr ⟨o, h⟩
    · cases e
theorem Le.eq {G G' : Hp} (l : Le G G') {a : Addr} {u : HO} (h : G a = some u) (n : ∀ φ, u ≠ .ext φ) : G' a = some u := by
  rcases l a u h with h | ⟨⟨φ, e⟩, _⟩
  · exact h
  · exact absurd e (n φ)
theorem Pre.refl (α : List Addr) : Pre α α := ⟨[], by simp⟩
theorem Pre.trans {a b c : List Addr} (h : Pre a b) (k : Pre b c) : Pre a c := by
  obtain ⟨x, rfl⟩ := h
  obtain ⟨y, rfl⟩ := k
  exact ⟨x ++ y, by simp⟩
theorem Pre.get {α α' : List Addr} (h : Pre α α') {n : Nat} {a : Addr} (e : α[n]? = some a) : α'[n]? = some a := by
  obtain ⟨β, rfl⟩ := h
  have hl : n < α.length := (List.getElem?_eq_some_iff.mp e).1
  rw [List.getElem?_append_left hl]; exact e
section
variable {Γ : GX} {G G' H H' : Hp} {α α' : List Addr}
mutual
theorem Rep.mono (l : Le G G') (p : Pre α α') : ∀ (d : D) (v : V), Rep Γ G α d v → Rep Γ G' α' d v
  | .non, v, h => by simpa only [Rep] using h
  | .bl b, v, h => by simpa only [Rep] using h
  | .int i, v, h => by simpa only [Rep] using h
  | .str x, v, h => by simpa only [Rep] using h
  | .tup xs, v, h => by
    simp only [Rep] at h ⊢
    obtain ⟨a, vs, e, g, r⟩ := h
    exact ⟨a, vs, e, l.eq g (fun _ z => by cases z), RepL.mono l p xs vs r⟩
  | .lst xs, v, h => by
    simp only [Rep] at h ⊢
    obtain ⟨a, vs, e, g, r⟩ := h
    exact ⟨a, vs, e, l.eq g (fun _ z => by cases z), RepL.mono l p xs vs r⟩
  | .scr xs, v, h => by
    simp only [Rep] at h ⊢
    obtain ⟨a, e, g⟩ := h
    exact ⟨a, e, g.elim (fun g => .inl (l.rd g)) .inr⟩
  | .dct kvs, v, h => by
    simp only [Rep] at h ⊢
    obtain ⟨a, es, e, g, r⟩ := h
    exact ⟨a, es, e, l.rd g, RepK.mono l p kvs es r⟩
  | .ins c fs, v, h => by
    simp only [Rep] at h ⊢
    obtain ⟨a, dx, vs, e, g, n, r⟩ := h
    exact ⟨a, dx, vs, e, l.eq g (fun _ z => by cases z), n, RepL.mono l p fs vs r⟩
  | .ref n, v, h => by
    simp only [Rep] at h ⊢
    obtain ⟨a, e, r⟩ := h
    exact ⟨a, p.get e, r⟩
theorem RepL.mono (l : Le G G') (p : Pre α α') : ∀ (ds : List D) (vs : List V), RepL Γ G α ds vs → RepL Γ G' α' ds vs
  | [], vs, h => by simpa only [RepL] using h
  | x :: xs, vs, h => by
    simp only [RepL] at h ⊢
    obtain ⟨v, r, e, h1, h2⟩ := h
    exact ⟨v, r, e, Rep.mono l p x v h1, RepL.mono l p xs r h2⟩
theorem RepP.mono (l : Le G G') (p : Pre α α') : ∀ (d : D × D) (e : Kd × Addr × V), RepP Γ G α d e → RepP Γ G' α' d e
  | (k, d), e, h => by
    simp only [RepP] at h ⊢
    exact ⟨h.1, Rep.mono l p k _ h.2.1, Rep.mono l p d _ h.2.2⟩
theorem RepK.mono (l : Le G G') (p : Pre α α') : ∀ (ds : List (D × D)) (es : List (Kd × Addr × V)), RepK Γ G α ds es → RepK Γ G' α' ds es
  | [], es, h => by simpa only [RepK] using h
  | x :: xs, es, h => by
    simp only [RepK] at h ⊢
    obtain ⟨v, r, e, h1, h2⟩ := h
    exact ⟨v, r, e, RepP.mono l p x v h1, RepK.mono l p xs r h2⟩
end
theorem RepL.length : ∀ {ds : List D} {vs : List V}, RepL Γ G α ds vs → ds.length = vs.length
  | [], vs, h => by simp only [RepL] at h; subst h; rfl
  | x :: xs, vs, h => by
    simp only [RepL] at h
    obtain ⟨v, r, rfl, _, h2⟩ := h
    simp [h2.length]
theorem RepL.get : ∀ {ds : List D} {vs : List V} {i : Nat} {d : D}, RepL Γ G α ds vs → ds[i]? = some d → ∃ v, vs[i]? = some v ∧ Rep Γ G α d v
  | [], _, _, _, _, e => by simp at e
  | x :: xs, vs, 0, d, h, e => by
    simp only [RepL] at h
    obtain ⟨v, r, rfl, h1, _⟩ := h
    simp at e; subst e
    exact ⟨v, by simp, h1⟩
  | x :: xs, vs, i + 1, d, h, e => by
    simp only [RepL] at h
    obtain ⟨v, r, rfl, _, h2⟩ := h
    obtain ⟨u, h3, h4⟩ := h2.get (i := i) (d := d) (by simpa using e)
    exact ⟨u, by simpa using h3, h4⟩
theorem RepL.nil : RepL Γ G α [] [] := by simp only [RepL]
theorem RepL.cons {x : D} {v : V} {xs : List D} {vs : List V} (h : Rep Γ G α x v) (r : RepL Γ G α xs vs) : RepL Γ G α (x :: xs) (v :: vs) := by
  simp only [RepL]; exact ⟨v, vs, rfl, h, r⟩
theorem RepL.append : ∀ {xs ys : List D} {us vs : List V}, RepL Γ G α xs us → RepL Γ G α ys vs → RepL Γ G α (xs ++ ys) (us ++ vs)
  | [], _, _, _, h, k => by simp only [RepL] at h; subst h; exact k
  | x :: xs, _, _, _, h, k => by
    simp only [RepL] at h
    obtain ⟨v, r, rfl, h1, h2⟩ := h
    exact RepL.cons h1 (h2.append k)
theorem RepL.set : ∀ {xs : List D} {us : List V} {i : Nat} {d : D} {v : V}, RepL Γ G α xs us → Rep Γ G α d v → RepL Γ G α (xs.set i d) (us.set i v)
  | [], _, _, _, _, h, k => by simp only [RepL] at h; subst h; exact RepL.nil
  | x :: xs, _, 0, _, _, h, k => by
    simp only [RepL] at h
    obtain ⟨v, r, rfl, h1, h2⟩ := h
    exact RepL.cons k h2
  | x :: xs, _, i + 1, _, _, h, k => by
    simp only [RepL] at h
    obtain ⟨v, r, rfl, h1, h2⟩ := h
    exact RepL.cons h1 (h2.set k)
theorem RepL.drop : ∀ {xs : List D} {us : List V} (n : Nat), RepL Γ G α xs us → RepL Γ G α (xs.drop n) (us.drop n)
  | _, _, 0, h => h
  | [], _, n + 1, h => by simp only [RepL] at h; subst h; exact RepL.nil
  | x :: xs, _, n + 1, h => by
    simp only [RepL] at h
    obtain ⟨v, r, rfl, h1, h2⟩ := h
    exact h2.drop n
theorem RepL.take : ∀ {xs : List D} {us : List V} (n : Nat), RepL Γ G α xs us → RepL Γ G α (xs.take n) (us.take n)
  | _, _, 0, h => by simp only [List.take_zero]; exact RepL.nil
  | [], _, n + 1, h => by simp only [RepL] at h; subst h; exact RepL.nil
  | x :: xs, _, n + 1, h => by
    simp only [RepL] at h
    obtain ⟨v, r, rfl, h1, h2⟩ := h
    exact RepL.cons h1 (h2.take n)
theorem RepL.reverse : ∀ {xs : List D} {us : List V}, RepL Γ G α xs us → RepL Γ G α xs.reverse us.reverse
  | [], _, h => by simp only [RepL] at h; subst h; exact RepL.nil
  | x :: xs, _, h => by
    simp only [RepL] at h
    obtain ⟨v, r, rfl, h1, h2⟩ := h
    rw [List.reverse_cons, List.reverse_cons]
    exact h2.reverse.append (RepL.cons h1 RepL.nil)
theorem RepL.rep {xs : List D} {us : List V} (h : RepL Γ G α xs us) : ∀ n : Nat, RepL Γ G α (MW.rep n xs) (List.replicate n us).flatten
  | 0 => RepL.nil
  | n + 1 => by
    show RepL Γ G α ((List.replicate (n + 1) xs).flatten) ((List.replicate (n + 1) us).flatten)
    rw [List.replicate_succ, List.replicate_succ, List.flatten_cons, List.flatten_cons]
    exact h.append (RepL.rep h n)
end
structure Sim (Γ : GX) (G H : Hp) (α : List Addr) (μ : Mu) : Prop where
  sub : ∀ a o, G a = some o → H a = some o
  len : α.length = μ.length
  nd : α.Nodup
  obj : ∀ (n : Nat) (p : Addr) (d : D), α[n]? = some p → μ[n]? = some d → G p = none ∧ Own Γ G H α p d
structure Gr (G H : Hp) (α : List Addr) (G' H' : Hp) (α' : List Addr) : Prop where
  le : Le G G'
  pre : Pre α α'
  fr : ∀ a o, H a = some o → G a = none → a ∉ α → H' a = some o ∧ G' a = none ∧ a ∉ α'
theorem Gr.refl (G H : Hp) (α : List Addr) : Gr G H α G H α := ⟨Le.refl G, Pre.refl α, fun _ _ h g n => ⟨h, g, n⟩⟩
theorem Gr.trans {G H G1 H1 G2 H2 : Hp} {α α1 α2 : List Addr} (a : Gr G H α G1 H1 α1) (b : Gr G1 H1 α1 G2 H2 α2) : Gr G H α G2 H2 α2 :=
  ⟨a.le.trans b.le, a.pre.trans b.pre, fun x o h g n => let ⟨h1, g1, n1⟩ := a.fr x o h g n; b.fr x o h1 g1 n1⟩
def SlR (Γ : GX) (G H : Hp) (α : List Addr) (s : Sl) (o : Option V) : Prop :=
  match s with
  | .un => True
  | .dat d => ∃ v, o = some v ∧ Rep Γ G α d v
  | .cel d => ∃ p, o = some (.ref p) ∧ G p = none ∧ p ∉ α ∧ Own Γ G H α p d ∧ ∀ cc fs, d ≠ .ins cc fs
  | .exn _ _ => True
structure EnvR (Γ : GX) (G H : Hp) (α : List Addr) (ρ : List Sl) (σ : L2.St) : Prop where
  len : ρ.length = σ.length
  at_ : ∀ (i : Nat) (s : Sl) (o : Option V), ρ[i]? = some s → σ[i]? = some o → SlR Γ G H α s o
  dis : ∀ (i j : Nat) (d e : D) (p : Addr), i ≠ j → ρ[i]? = some (.cel d) → ρ[j]? = some (.cel e) → σ[i]? = some (some (.ref p)) → σ[j]? = some (some (.ref p)) → False
section
variable {Γ : GX} {G G' H H' : Hp} {α α' : List Addr} {μ μ' : Mu} {ρ : List Sl} {σ : L2.St}
theorem Own.mono {p : Addr} {d : D} (l : Le G G') (pr : Pre α α') (e : ∀ o, H p = some o → H' p = some o) (h : Own Γ G H α p d) : Own Γ G' H' α' p d := by
  cases d with
  | lst xs => obtain ⟨vs, h1, h2⟩ := h; exact ⟨vs, e _ h1, RepL.mono l pr _ _ h2⟩
  | dct kvs => obtain ⟨es, h1, h2⟩ := h; exact ⟨es, e _ h1, RepK.mono l pr _ _ h2⟩
  | ins c fs => obtain ⟨dx, vs, h1, n, h2⟩ := h; exact ⟨dx, vs, e _ h1, n, RepL.mono l pr _ _ h2⟩
  | _ => exact h.elim
theorem Own.some {p : Addr} {d : D} (h : Own Γ G H α p d) : ∃ o, H p = Option.some o := by
  cases d with
  | lst xs => obtain ⟨vs, h1, h2⟩ := h; exact ⟨_, h1⟩
  | dct kvs => obtain ⟨es, h1, h2⟩ := h; exact ⟨_, h1⟩
  | ins c fs => obtain ⟨dx, vs, h1, n, h2⟩ := h; exact ⟨_, h1⟩
  | _ => exact h.elim
theorem SlR.grow {s : Sl} {o : Option V} (g : Gr G H α G' H' α') (h : SlR Γ G H α s o) : SlR Γ G' H' α' s o := by
  cases s with
  | un => trivial
  | dat d => obtain ⟨v, e, r⟩ := h; exact ⟨v, e, Rep.mono g.le g.pre d v r⟩
  | cel d =>
    obtain ⟨p, e, gp, np, ow, ni⟩ := h
    obtain ⟨o1, h1⟩ := ow.some
    obtain ⟨_, g2, n2⟩ := g.fr p o1 h1 gp np
    exact ⟨p, e, g2, n2, ow.mono g.le g.pre fun o2 h2 => (g.fr p o2 h2 gp np).1, ni⟩
  | exn c d => trivial
theorem EnvR.grow (g : Gr G H α G' H' α') (h : EnvR Γ G H α ρ σ) : EnvR Γ G' H' α' ρ σ :=
  ⟨h.len, fun i s o a b => (h.at_ i s o a b).grow g, h.dis⟩
end
end MW
namespace MW
open PySem PySem.Spec PyProof.Rows L2
def ErrR (Γ : GX) (G H : Hp) (α : List Addr) (e : Nat) (d : D) (dx : Addr) : Prop :=
  ∃ v f, H dx = some (.xd [(f, v)]) ∧ Γ.names e = [f] ∧ G dx = none ∧ dx ∉ α ∧ Rep Γ G α d v
def Wn {A B : Type} (Γ : GX) (W : WX) (σ : L2.St) (G H : Hp) (α : List Addr) (R : Hp → Hp → List Addr → A → B → Prop) (r : Res A) (Q : B → Hp → Prop) : Prop :=
  match r with
  | .ok a μ' => ∀ b G' H' α', Gr G H α G' H' α' → Sim Γ G' H' α' μ' → R G' H' α' a b → Q b H'
  | .exc e d μ' => ∀ dx G' H' α', Gr G H α G' H' α' → Sim Γ G' H' α' μ' → ErrR Γ G' H' α' e d dx → H dx = none → W (.ref (Γ.cls e)) (some dx) σ H'
  | .bad => False
def VlR (Γ : GX) (H0 : Hp) (G H : Hp) (α : List Addr) (x : Vl) (v : V) : Prop :=
  match x with
  | .dat d => Rep Γ G α d v
  | .frs d => ∃ p, v = .ref p ∧ G p = none ∧ p ∉ α ∧ Own Γ G H α p d ∧ H0 p = none ∧ ∀ cc fs, d ≠ .ins cc fs
  | .bor d => ∃ p, v = .ref p ∧ G p = none ∧ p ∉ α ∧ Own Γ G H α p d
def DatR (Γ : GX) (G H : Hp) (α : List Addr) (d : D) (v : V) : Prop :=
  Rep Γ G α d v ∨ ∃ p, v = .ref p ∧ G p = none ∧ p ∉ α ∧ Own Γ G H α p d
def EqR {A : Type} (G H : Hp) (α : List Addr) (a b : A) : Prop := a = b
section
variable {Γ : GX} {W : WX} {σ : L2.St} {ρ : List Sl} {G H G1 H1 H0 : Hp} {α α1 : List Addr} {μ μ1 : Mu}
theorem VlR.datR {x : Vl} {v : V} (h : VlR Γ H0 G H α x v) : DatR Γ G H α x.d v := by
  cases x with
  | dat d => exact .inl h
  | frs d => obtain ⟨p, e, g, n, o, _⟩ := h; exact .inr ⟨p, e, g, n, o⟩
  | bor d => exact .inr h
theorem Own.grow {p : Addr} {d : D} (g : Gr G H α G1 H1 α1) (gp : G p = none) (np : p ∉ α) (h : Own Γ G H α p d) : G1 p = none ∧ p ∉ α1 ∧ Own Γ G1 H1 α1 p d := by
  obtain ⟨o1, h1⟩ := h.some
  obtain ⟨_, g2, n2⟩ := g.fr p o1 h1 gp np
  exact ⟨g2, n2, h.mono g.le g.pre fun o2 h2 => (g.fr p o2 h2 gp np).1⟩
theorem DatR.grow {d : D} {v : V} (g : Gr G H α G1 H1 α1) (h : DatR Γ G H α d v) : DatR Γ G1 H1 α1 d v := by
  rcases h with h | ⟨p, e, gp, np, o⟩
  · exact .inl (Rep.mono g.le g.pre d v h)
  · obtain ⟨a, b, c⟩ := o.grow g gp np
    exact .inr ⟨p, e, a, b, c⟩
theorem VlR.grow {x : Vl} {v : V} (g : Gr G H α G1 H1 α1) (h : VlR Γ H0 G H α x v) : VlR Γ H0 G1 H1 α1 x v := by
  cases x with
  | dat d => exact Rep.mono g.le g.pre d v h
  | frs d => obtain ⟨p, e, gp, np, o, dis⟩ := h; obtain ⟨a, b, c⟩ := o.grow g gp np; exact ⟨p, e, a, b, c, dis⟩
  | bor d => obtain ⟨p, e, gp, np, o⟩ := h; obtain ⟨a, b, c⟩ := o.grow g gp np; exact ⟨p, e, a, b, c⟩
theorem Wn.shift {A B : Type} {R : Hp → Hp → List Addr → A → B → Prop} {r : Res A} {Q : B → Hp → Prop} (g : Gr G H α G1 H1 α1) (n : ∀ a o, H a = some o → ∃ o', H1 a = some o') (h : Wn Γ W σ G H α R r Q) : Wn Γ W σ G1 H1 α1 R r Q := by
  cases r with
  | ok a m => exact fun b G' H' α' g' s r => h b G' H' α' (g.trans g') s r
  | exc e d m => exact fun dx G' H' α' g' s r hn => h dx G' H' α' (g.trans g') s r (by
      cases q : H dx with
      | none => rfl
      | some o => obtain ⟨o', e'⟩ := n dx o q; rw [hn] at e'; cases e')
  | bad => exact h
def Keep (H H' : Hp) : Prop := ∀ a o, H a = some o → ∃ o', H' a = some o'
theorem Keep.refl (H : Hp) : Keep H H := fun _ o h => ⟨o, h⟩
theorem Keep.trans {H H1 H2 : Hp} (a : Keep H H1) (b : Keep H1 H2) : Keep H H2 := fun x o h => let ⟨_, h1⟩ := a x o h; b x _ h1
theorem Keep.none {H H1 : Hp} (k : Keep H H1) {a : Addr} (h : H1 a = none) : H a = none := by
  cases q : H a with
  | none => rfl
  | some o => obtain ⟨o', e⟩ := k a o q; rw [h] at e; cases e
theorem Gr.there (g : Gr G H α G1 H1 α1) (s : Sim Γ G H α μ) (s1 : Sim Γ G1 H1 α1 μ1) : Keep H H1 := fun a o h => by
  by_cases ga : G a = none
  · by_cases na : a ∈ α
    · obtain ⟨n, hn⟩ := List.mem_iff_getElem?.mp na
      have hn1 := g.pre.get hn
      have hl : n < μ1.length := by rw [← s1.len]; exact (List.getElem?_eq_some_iff.mp hn1).1
      obtain ⟨_, ow⟩ := s1.obj n a _ hn1 (List.getElem?_eq_getElem hl)
      exact ow.some
    · exact ⟨o, (g.fr a o h ga na).1⟩
  · cases q : G a with
    | none => exact absurd q ga
    | some u =>
      rcases g.le a u q with h2 | ⟨_, ob, h2⟩
      · exact ⟨_, s1.sub _ _ h2⟩
      · exact ⟨_, s1.sub _ _ h2⟩
theorem Wn.bnd {A B C D' : Type} {RA : Hp → Hp → List Addr → A → B → Prop} {RC : Hp → Hp → List Addr → C → D' → Prop} {x : M A} {f : A → M C} {Q : D' → Hp → Prop} (s : Sim Γ G H α μ) (h : Wn Γ W σ G H α RC (bnd x f μ) Q) :
    Wn Γ W σ G H α RA (x μ) (fun b H1 => ∃ a G1 α1 μ1, Gr G H α G1 H1 α1 ∧ Sim Γ G1 H1 α1 μ1 ∧ RA G1 H1 α1 a b ∧ Wn Γ W σ G1 H1 α1 RC (f a μ1) Q) := by
  unfold MW.bnd at h
  cases e : x μ with
  | ok a m =>
    rw [e] at h
    exact fun b G1 H1 α1 g s1 r => ⟨a, G1, α1, m, g, s1, r, h.shift g (g.there s s1)⟩
  | exc e d m =>
    rw [e] at h
    exact h
  | bad =>
    rw [e] at h
    exact h
theorem Wn.pur {A B : Type} {R : Hp → Hp → List Addr → A → B → Prop} {a : A} {Q : B → Hp → Prop} (s : Sim Γ G H α μ) (h : Wn Γ W σ G H α R (MW.pur a μ) Q) {b : B} (r : R G H α a b) : Q b H := h b G H α (Gr.refl _ _ _) s r
theorem Wn.opt {A B C : Type} {R : Hp → Hp → List Addr → C → B → Prop} {o : Option A} {f : A → M C} {Q : B → Hp → Prop} (h : Wn Γ W σ G H α R (MW.bnd (MW.opt o) f μ) Q) : ∃ a, o = some a ∧ Wn Γ W σ G H α R (f a μ) Q := by
  cases o with
  | none => exact h.elim
  | some a => exact ⟨a, rfl, h⟩
theorem Wn.opt0 {A B : Type} {R : Hp → Hp → List Addr → A → B → Prop} {o : Option A} {Q : B → Hp → Prop} (h : Wn Γ W σ G H α R (MW.opt o μ) Q) : ∃ a, o = some a ∧ Wn Γ W σ G H α R (MW.pur a μ) Q := by
  cases o with
  | none => exact h.elim
  | some a => exact ⟨a, rfl, h⟩
theorem Wn.mono {A B : Type} {R : Hp → Hp → List Addr → A → B → Prop} {r : Res A} {Q Q' : B → Hp → Prop} (h : Wn Γ W σ G H α R r Q) (k : ∀ b H', Q b H' → Q' b H') : Wn Γ W σ G H α R r Q' := by
  cases r with
  | ok a m => exact fun b G' H' α' g s r => k _ _ (h b G' H' α' g s r)
  | exc e d m => exact h
  | bad => exact h
def RdR (Γ : GX) (G H : Hp) (α : List Addr) (d : D) (v : V) : Prop := Rep Γ G α d v ∨ ∃ p, v = .ref p ∧ Own Γ G H α p d
theorem DatR.look {d : D} {v : V} (s : Sim Γ G H α μ) (h : DatR Γ G H α d v) : RdR Γ G H α (MW.content d μ) v := by
  cases d with
  | ref n =>
    rcases h with h | ⟨p, e, g, n, o⟩
    · simp only [Rep] at h
      obtain ⟨p, e, rfl⟩ := h
      have hl : n < μ.length := by rw [← s.len]; exact (List.getElem?_eq_some_iff.mp e).1
      have em : μ[n]? = some (MW.content (.ref n) μ) := by
        show μ[n]? = some (μ.getD n .non)
        rw [List.getD_eq_getElem?_getD, List.getElem?_eq_getElem hl]; rfl
      obtain ⟨g, o⟩ := s.obj n p _ e em
      exact .inr ⟨p, rfl, o⟩
    · exact o.elim
  | _ =>
    rcases h with h | ⟨p, e, g, n, o⟩
    · exact .inl h
    · exact .inr ⟨p, e, o⟩
theorem DatR.cont {d : D} {v : V} (s : Sim Γ G H α μ) (h : DatR Γ G H α d v) : content d μ = d ∧ (∀ n, d ≠ .ref n) ∨ ∃ n p, d = .ref n ∧ v = .ref p ∧ α[n]? = some p ∧ G p = none ∧ Own Γ G H α p (content d μ) := by
  cases d with
  | ref n =>
    rcases h with h | ⟨p, e, g, n, o⟩
    · simp only [Rep] at h
      obtain ⟨p, e, rfl⟩ := h
      have hl : n < μ.length := by rw [← s.len]; exact (List.getElem?_eq_some_iff.mp e).1
      have em : μ[n]? = some (content (.ref n) μ) := by
        show μ[n]? = some (μ.getD n .non)
        rw [List.getD_eq_getElem?_getD, List.getElem?_eq_getElem hl]; rfl
      obtain ⟨g, o⟩ := s.obj n p _ e em
      exact .inr ⟨n, p, rfl, rfl, e, g, o⟩
    · exact o.elim
  | _ => exact .inl ⟨rfl, fun n z => by cases z⟩
end
def tE (Γ : GX) (c : CL) (W : WX) (t : E) : TE := fun σ H Q => ∃ G α ρ μ, Sim Γ G H α μ ∧ EnvR Γ G H α ρ σ ∧ Wn Γ W σ G H α (VlR Γ H) (ev c ρ t μ) Q
def SE (X : Cx) (Γ : GX) (c : CL) (W : WX) (e : Expr) (t : E) : Prop := PE X e (tE Γ c W t)
section
variable {X : Cx} {Γ : GX} {c : CL} {W : WX} {σ : L2.St} {ρ : List Sl} {G H : Hp} {α : List Addr} {μ : Mu} {Q : VK}
theorem tE_mono0 {t : E} {Q Q' : VK} (h : tE Γ c W t σ H Q) (k : ∀ v H', Q v H' → Q' v H') : tE Γ c W t σ H Q' := let ⟨G, α, ρ, μ, s, en, w⟩ := h; ⟨G, α, ρ, μ, s, en, w.mono k⟩
theorem one {A B : Type} {R : Hp → Hp → List Addr → A → B → Prop} {t : E} {k : Vl → M A} {Q : B → Hp → Prop} (s : Sim Γ G H α μ) (en : EnvR Γ G H α ρ σ) (w : Wn Γ W σ G H α R (bnd (ev c ρ t) k μ) Q) :
    tE Γ c W t σ H fun v H1 => ∃ x G1 α1 μ1, Keep H H1 ∧ Gr G H α G1 H1 α1 ∧ Sim Γ G1 H1 α1 μ1 ∧ EnvR Γ G1 H1 α1 ρ σ ∧ VlR Γ H G1 H1 α1 x v ∧ Wn Γ W σ G1 H1 α1 R (k x μ1) Q := by
  refine ⟨G, α, ρ, μ, s, en, ?_⟩
  have h := w.bnd (RA := VlR Γ H) s
  cases e : ev c ρ t μ with
  | ok a m =>
    rw [e] at h
    intro b G1 H1 α1 g s1 r
    obtain ⟨x, G2, α2, μ2, g2, s2, r2, w2⟩ := h b G1 H1 α1 g s1 r
    exact ⟨x, G2, α2, μ2, g2.there s s2, g2, s2, en.grow g2, r2, w2⟩
  | exc e d m => rw [e] at h; exact h
  | bad => rw [e] at h; exact h
theorem two {A B : Type} {R : Hp → Hp → List Addr → A → B → Prop} {t u : E} {k : Vl → Vl → M A} {Q : B → Hp → Prop} (s : Sim Γ G H α μ) (en : EnvR Γ G H α ρ σ) (w : Wn Γ W σ G H α R (bnd (ev c ρ t) (fun x => bnd (ev c ρ u) fun y => k x y) μ) Q) :
    tE Γ c W t σ H fun v H1 => tE Γ c W u σ H1 fun v2 H2 => ∃ x y G2 α2 μ2, Keep H H2 ∧ Gr G H α G2 H2 α2 ∧ Sim Γ G2 H2 α2 μ2 ∧ EnvR Γ G2 H2 α2 ρ σ ∧ DatR Γ G2 H2 α2 x.d v ∧ DatR Γ G2 H2 α2 y.d v2 ∧ Wn Γ W σ G2 H2 α2 R (k x y μ2) Q := by
  exact tE_mono0 (one (c := c) s en w) fun v H1 ⟨x, G2, α2, μ2, k2, g2, s2, en2, r2, w2⟩ => tE_mono0 (one (c := c) s2 en2 w2) fun v2 H2 ⟨y, G5, α5, μ5, k5, g5, s5, en5, r5, w5⟩ =>
    ⟨x, y, G5, α5, μ5, k2.trans k5, g2.trans g5, s5, en5, r2.datR.grow g5, r5.datR, w5⟩
theorem Sim.none {Γ : GX} {G H : Hp} {α : List Addr} {μ : Mu} (s : Sim Γ G H α μ) {p : Addr} (h : H p = Option.none) : G p = Option.none ∧ p ∉ α := by
  refine ⟨?_, fun m => ?_⟩
  · cases q : G p with
    | none => rfl
    | some o => rw [s.sub p o q] at h; cases h
  · obtain ⟨n, hn⟩ := List.mem_iff_getElem?.mp m
    have hl : n < μ.length := by rw [← s.len]; exact (List.getElem?_eq_some_iff.mp hn).1
    obtain ⟨_, ow⟩ := s.obj n p _ hn (List.getElem?_eq_getElem hl)
    obtain ⟨o, e⟩ := ow.some
    rw [h] at e; cases e
theorem ne_none {H : Hp} {a p : Addr} {o : HO} (h : H a = some o) (n : H p = Option.none) : a ≠ p := fun e => by rw [e, n] at h; cases h
theorem alloc {p : Addr} {o : HO} (s : Sim Γ G H α μ) (h : H p = Option.none) : Gr G H α (upd G p o) (upd H p o) α ∧ Sim Γ (upd G p o) (upd H p o) α μ := by
  obtain ⟨gp, np⟩ := s.none h
  have le : Le G (upd G p o) := fun a u e => .inl (by rw [upd_ne (ne_none e gp)]; exact e)
  refine ⟨⟨le, Pre.refl _, fun a u e g n => ⟨by rw [upd_ne (ne_none e h)]; exact e, by rw [upd_ne (ne_none e h)]; exact g, n⟩⟩, ⟨fun a u e => ?_, s.len, s.nd, fun n q d e1 e2 => ?_⟩⟩
  · by_cases q : a = p
    · subst q; rw [upd_same] at e ⊢; exact e
    · rw [upd_ne q] at e ⊢; exact s.sub a u e
  · obtain ⟨g, ow⟩ := s.obj n q d e1 e2
    have nq : q ≠ p := fun z => by subst z; exact np (List.mem_of_getElem? e1)
    refine ⟨by rw [upd_ne nq]; exact g, ow.mono le (Pre.refl _) fun o2 h2 => by rw [upd_ne nq]; exact h2⟩
theorem allocF {p : Addr} {o : HO} (s : Sim Γ G H α μ) (h : H p = Option.none) : Gr G H α G (upd H p o) α ∧ Sim Γ G (upd H p o) α μ := by
  obtain ⟨gp, np⟩ := s.none h
  refine ⟨⟨Le.refl _, Pre.refl _, fun a u e g n => ⟨by rw [upd_ne (ne_none e h)]; exact e, g, n⟩⟩, ⟨fun a u e => ?_, s.len, s.nd, fun n q d e1 e2 => ?_⟩⟩
  · rw [upd_ne (ne_none e gp)]; exact s.sub a u e
  · obtain ⟨g, ow⟩ := s.obj n q d e1 e2
    have nq : q ≠ p := fun z => by subst z; exact np (List.mem_of_getElem? e1)
    exact ⟨g, ow.mono (Le.refl _) (Pre.refl _) fun o2 h2 => by rw [upd_ne nq]; exact h2⟩
theorem freeze {p : Addr} {d : D} (s : Sim Γ G H α μ) (gp : G p = Option.none) (np : p ∉ α) (ow : Own Γ G H α p d) (hd : ∀ c fs, d ≠ .ins c fs) :
    ∃ G', Le G G' ∧ Sim Γ G' H α μ ∧ Rep Γ G' α d (.ref p) ∧ ∀ a, a ≠ p → G' a = G a := by
  obtain ⟨o, ho⟩ := ow.some
  have le : Le G (upd G p o) := fun a u e => .inl (by rw [upd_ne (ne_none e gp)]; exact e)
  refine ⟨upd G p o, le, ⟨fun a u e => ?_, s.len, s.nd, fun n q d2 e1 e2 => ?_⟩, ?_, fun a n => upd_ne n⟩
  · by_cases q : a = p
    · subst q; rw [upd_same] at e; rw [← e]; exact ho
    · rw [upd_ne q] at e; exact s.sub a u e
  · obtain ⟨g, ow2⟩ := s.obj n q d2 e1 e2
    have nq : q ≠ p := fun z => by subst z; exact np (List.mem_of_getElem? e1)
    exact ⟨by rw [upd_ne nq]; exact g, ow2.mono le (Pre.refl _) fun _ h2 => h2⟩
  · cases d with
    | lst xs =>
      obtain ⟨vs, h1, h2⟩ := ow
      rw [h1] at ho; cases ho
      simp only [Rep]
      exact ⟨p, vs, rfl, upd_same, RepL.mono le (Pre.refl _) _ _ h2⟩
    | dct kvs =>
      obtain ⟨es, h1, h2⟩ := ow
      rw [h1] at ho; cases ho
      simp only [Rep]
      exact ⟨p, es, rfl, .inl upd_same, RepK.mono le (Pre.refl _) _ _ h2⟩
    | ins c fs => exact absurd rfl (hd c fs)
    | _ => exact ow.elim
def RepR (Γ : GX) (G H : Hp) (α : List Addr) (d : D) (v : V) : Prop := Rep Γ G α d v
def tF (Γ : GX) (c : CL) (W : WX) (t : E) : TE := fun σ H Q => ∃ G α ρ μ, Sim Γ G H α μ ∧ EnvR Γ G H α ρ σ ∧ Wn Γ W σ G H α (RepR Γ) (evF c ρ t μ) Q
theorem imp {X : Cx} {e : Expr} {t t' : TE} (h : PE X e t) (k : ∀ σ H Q, t' σ H Q → t σ H Q) : PE X e t' := ⟨fun pins s σ H Q I q => h.run pins s σ H Q I (k σ H Q q)⟩
theorem SE.frz {e : Expr} {t : E} (h : SE X Γ c W e t) : PE X e (tF Γ c W t) := by
  refine imp h fun σ H Q ⟨G, α, ρ, μ, s, en, w⟩ => ⟨G, α, ρ, μ, s, en, ?_⟩
  unfold evF MW.bnd at w
  cases q : ev c ρ t μ with
  | ok v m =>
    rw [q] at w
    intro b G' H' α' g s' r
    cases v with
    | dat d => exact w b G' H' α' g s' r
    | frs d =>
      obtain ⟨p, rfl, gp, np, ow, h0, hd⟩ := r
      obtain ⟨G2, le, s2, rp, ne⟩ := freeze s' gp np ow hd
      refine w (.ref p) G2 H' α' ⟨g.le.trans le, g.pre, fun a o ha ga na => ?_⟩ s2 rp
      obtain ⟨h1, g1, n1⟩ := g.fr a o ha ga na
      exact ⟨h1, by rw [ne a (ne_none ha h0)]; exact g1, n1⟩
    | bor d => exact w.elim
  | exc e d m => rw [q] at w; exact w
  | bad => rw [q] at w; exact w.elim
theorem tF_mono {t : E} {Q' : VK} (h : tF Γ c W t σ H Q) (k : ∀ v H', Q v H' → Q' v H') : tF Γ c W t σ H Q' := let ⟨G, α, ρ, μ, s, en, w⟩ := h; ⟨G, α, ρ, μ, s, en, w.mono k⟩
theorem oneF {A B : Type} {R : Hp → Hp → List Addr → A → B → Prop} {t : E} {k : D → M A} {Q : B → Hp → Prop} (s : Sim Γ G H α μ) (en : EnvR Γ G H α ρ σ) (w : Wn Γ W σ G H α R (bnd (ev c ρ t) (fun v => bnd (MW.opt v.fz) k) μ) Q) :
    tF Γ c W t σ H fun v H1 => ∃ d G1 α1 μ1, Keep H H1 ∧ Gr G H α G1 H1 α1 ∧ Sim Γ G1 H1 α1 μ1 ∧ EnvR Γ G1 H1 α1 ρ σ ∧ Rep Γ G1 α1 d v ∧ Wn Γ W σ G1 H1 α1 R (k d μ1) Q := by
  refine ⟨G, α, ρ, μ, s, en, ?_⟩
  have w' : Wn Γ W σ G H α R (bnd (evF c ρ t) k μ) Q := by
    have e : bnd (evF c ρ t) k μ = bnd (ev c ρ t) (fun v => bnd (MW.opt v.fz) k) μ := by
      unfold evF MW.bnd
      cases ev c ρ t μ with
      | ok a m => rfl
      | exc e d m => rfl
      | bad => rfl
    rw [e]; exact w
  have h := w'.bnd (RA := RepR Γ) s
  refine h.mono fun b H1 ⟨x, G2, α2, μ2, g2, s2, r2, w2⟩ => ⟨x, G2, α2, μ2, g2.there s s2, g2, s2, en.grow g2, r2, w2⟩
end
end MW
namespace MW
open PySem PySem.Spec PyProof.Rows L2
section
variable {X : Cx} {Γ : GX} {c : CL} {W : WX} {σ : L2.St} {ρ : List Sl} {G H G1 H1 H0 : Hp} {α α1 : List Addr} {μ μ1 : Mu} {pins : List (Addr × Obj)} {s : Shared}
theorem Rd.up (sm : Sim Γ G H α μ) {a : Addr} {u : HO} (h : Rd G a u) : Rd H a u := by
  rcases h with h | ⟨o, h⟩
  · exact .inl (sm.sub _ _ h)
  · exact .inr ⟨o, sm.sub _ _ h⟩
theorem RdR.int {i : Int} {v : V} (h : RdR Γ G H α (.int i) v) : v = .int i := by
  rcases h with h | ⟨p, _, o⟩
  · simpa only [Rep] using h
  · exact o.elim
theorem RdR.bl {i : Bool} {v : V} (h : RdR Γ G H α (.bl i) v) : v = .bl i := by
  rcases h with h | ⟨p, _, o⟩
  · simpa only [Rep] using h
  · exact o.elim
theorem RdR.str {i : Str} {v : V} (h : RdR Γ G H α (.str i) v) : v = .str i := by
  rcases h with h | ⟨p, _, o⟩
  · simpa only [Rep] using h
  · exact o.elim
theorem RdR.non {v : V} (h : RdR Γ G H α .non v) : v = .non := by
  rcases h with h | ⟨p, _, o⟩
  · simpa only [Rep] using h
  · exact o.elim
theorem RdR.lst (sm : Sim Γ G H α μ) {xs : List D} {v : V} (h : RdR Γ G H α (.lst xs) v) : ∃ a vs, v = .ref a ∧ H a = some (.lst vs) ∧ RepL Γ G α xs vs := by
  rcases h with h | ⟨p, e, o⟩
  · simp only [Rep] at h
    obtain ⟨a, vs, e, g, r⟩ := h
    exact ⟨a, vs, e, sm.sub _ _ g, r⟩
  · obtain ⟨vs, h1, h2⟩ := o
    exact ⟨p, vs, e, h1, h2⟩
theorem RdR.tup (sm : Sim Γ G H α μ) {xs : List D} {v : V} (h : RdR Γ G H α (.tup xs) v) : ∃ a vs, v = .ref a ∧ H a = some (.tup vs) ∧ RepL Γ G α xs vs := by
  rcases h with h | ⟨p, e, o⟩
  · simp only [Rep] at h
    obtain ⟨a, vs, e, g, r⟩ := h
    exact ⟨a, vs, e, sm.sub _ _ g, r⟩
  · exact o.elim
theorem DatR.int {i : Int} {v : V} (h : DatR Γ G H α (.int i) v) : v = .int i := by
  rcases h with h | ⟨p, _, _, _, o⟩
  · simpa only [Rep] using h
  · exact o.elim
def scl : D → Bool
  | .non => true | .bl _ => true | .int _ => true | .str _ => true | _ => false
def sclV : D → V
  | .non => .non | .bl b => .bl b | .int i => .int i | .str x => .str x | _ => .non
theorem Rep.scl {d : D} (h : MW.scl d = true) : Rep Γ G α d (sclV d) := by
  cases d <;> first | (simp only [Rep, sclV]; done) | exact absurd h (by simp [MW.scl])
theorem se_of {e : Expr} {d : D} (hs : MW.scl d = true) (h : PE X e (tC (sclV d))) : SE X Γ c W e (.con d) := by
  refine imp h fun σ H Q ⟨G, α, ρ, μ, sm, en, w⟩ => ?_
  exact w.pur (a := Vl.dat d) sm (Rep.scl hs)
def conOk : Const → D → Bool
  | .none, .non => true
  | .bool b, .bl b' => b == b'
  | .int i, .int j => i == j
  | .str x, .str y => x == y
  | _, _ => false
theorem se_con {k : Const} {d : D} {j : Nat} {pos : Pos} (h : conOk k d = true) : SE X Γ c W (.Constant k j pos) (.con d) := by
  cases k <;> cases d <;> first | exact absurd (show false = true from h) Bool.false_ne_true | skip
  · exact se_of rfl pe_non
  · have e := eq_of_beq (show (_ == _) = true from h); subst e; exact se_of rfl pe_bl
  · have e := eq_of_beq (show (_ == _) = true from h); subst e; exact se_of rfl pe_int
  · have e := eq_of_beq (show (_ == _) = true from h); subst e; exact se_of rfl pe_str
theorem slot_some {i : Nat} {x : Sl} (h : slot ρ i = x) (n : x ≠ .un) : ρ[i]? = some x := by
  unfold slot at h
  rw [List.getD_eq_getElem?_getD] at h
  cases e : ρ[i]? with
  | none => rw [e] at h; exact absurd h.symm n
  | some y => rw [e] at h; exact congrArg some h
theorem EnvR.here (en : EnvR Γ G H α ρ σ) {i : Nat} {x : Sl} (h : ρ[i]? = some x) : ∃ o, σ[i]? = some o ∧ SlR Γ G H α x o := by
  have hl : i < σ.length := by rw [← en.len]; exact (List.getElem?_eq_some_iff.mp h).1
  exact ⟨σ[i], List.getElem?_eq_getElem hl, en.at_ i x _ h (List.getElem?_eq_getElem hl)⟩
theorem se_var {i : Nat} {x : Str} {pos : Pos} (hN : X.N[i]? = some x) (hv : Vis X.env.scope x) (hd : (x == ("__debug__" : Str)) = false) (hcd : (x == ("__classdict__" : Str)) = false) : SE X Γ c W (.Name x pos) (.var i) := by
  refine imp (pe_var hN hv hd hcd) fun σ H Q ⟨G, α, ρ, μ, sm, en, w⟩ => ?_
  cases e : slot ρ i with
  | dat d =>
    obtain ⟨o, e1, r⟩ := en.here (slot_some e (by intro z; cases z))
    obtain ⟨v, rfl, r⟩ := r
    refine ⟨v, e1, ?_⟩
    simp only [ev, e] at w
    exact w.pur sm r
  | _ => simp only [ev, e] at w; exact w.elim
theorem se_bor {i : Nat} {x : Str} {pos : Pos} (hN : X.N[i]? = some x) (hv : Vis X.env.scope x) (hd : (x == ("__debug__" : Str)) = false) (hcd : (x == ("__classdict__" : Str)) = false) : SE X Γ c W (.Name x pos) (.bor i) := by
  refine imp (pe_var hN hv hd hcd) fun σ H Q ⟨G, α, ρ, μ, sm, en, w⟩ => ?_
  cases e : slot ρ i with
  | dat d =>
    obtain ⟨o, e1, r⟩ := en.here (slot_some e (by intro z; cases z))
    obtain ⟨v, rfl, r⟩ := r
    refine ⟨v, e1, ?_⟩
    simp only [ev, e] at w
    exact w.pur sm r
  | cel d =>
    obtain ⟨o, e1, r⟩ := en.here (slot_some e (by intro z; cases z))
    obtain ⟨p, rfl, g, n, ow, _⟩ := r
    refine ⟨.ref p, e1, ?_⟩
    simp only [ev, e] at w
    exact w.pur sm ⟨p, rfl, g, n, ow⟩
  | _ => simp only [ev, e] at w; exact w.elim
def LR (Γ : GX) (G H : Hp) (α : List Addr) (ds : List D) (vs : List V) : Prop := RepL Γ G α ds vs
def tFs (Γ : GX) (c : CL) (W : WX) (ts : Es) : TA := fun σ H Q => ∃ G α ρ μ, Sim Γ G H α μ ∧ EnvR Γ G H α ρ σ ∧ Wn Γ W σ G H α (LR Γ) (evs c ρ ts μ) Q
def SA (X : Cx) (Γ : GX) (c : CL) (W : WX) (es : List Expr) (ts : Es) : Prop := PA X es (tFs Γ c W ts)
theorem PA.imp {es : List Expr} {t t' : TA} (h : PA X es t) (k : ∀ σ H Q, t' σ H Q → t σ H Q) : PA X es t' := ⟨fun pos pins s σ H Q I q => h.run pos pins s σ H Q I (k σ H Q q)⟩
theorem sa_nil : SA X Γ c W [] .nil := by
  refine PA.imp pa_nil fun σ H Q ⟨G, α, ρ, μ, sm, en, w⟩ => ?_
  exact w.pur (a := []) sm RepL.nil
theorem tFs_mono {ts : Es} {Q Q' : List V → Hp → Prop} (h : tFs Γ c W ts σ H Q) (k : ∀ v H', Q v H' → Q' v H') : tFs Γ c W ts σ H Q' := let ⟨G, α, ρ, μ, s, en, w⟩ := h; ⟨G, α, ρ, μ, s, en, w.mono k⟩
theorem many {A B : Type} {R : Hp → Hp → List Addr → A → B → Prop} {ts : Es} {k : List D → M A} {Q : B → Hp → Prop} (s : Sim Γ G H α μ) (en : EnvR Γ G H α ρ σ) (w : Wn Γ W σ G H α R (bnd (evs c ρ ts) k μ) Q) :
    tFs Γ c W ts σ H fun vs H1 => ∃ ds G1 α1 μ1, Keep H H1 ∧ Gr G H α G1 H1 α1 ∧ Sim Γ G1 H1 α1 μ1 ∧ EnvR Γ G1 H1 α1 ρ σ ∧ RepL Γ G1 α1 ds vs ∧ Wn Γ W σ G1 H1 α1 R (k ds μ1) Q := by
  refine ⟨G, α, ρ, μ, s, en, ?_⟩
  have h := w.bnd (RA := LR Γ) s
  cases e : evs c ρ ts μ with
  | ok a m =>
    rw [e] at h
    intro b G1 H1 α1 g s1 r
    obtain ⟨x, G2, α2, μ2, g2, s2, r2, w2⟩ := h b G1 H1 α1 g s1 r
    exact ⟨x, G2, α2, μ2, g2.there s s2, g2, s2, en.grow g2, r2, w2⟩
  | exc e d m => rw [e] at h; exact h
  | bad => rw [e] at h; exact h
theorem star_ne {e : Expr} {es : List Expr} {env : Env} (h : ∀ x p, e ≠ .Starred x p) : starEach (e :: es) env = (false, eval e env) :: starEach es env := by
  cases e <;> first | rfl | exact absurd rfl (h _ _)
theorem sa_cons {e : Expr} {es : List Expr} {t : E} {ts : Es} (h1 : SE X Γ c W e t) (h2 : SA X Γ c W es ts) (hn : ∀ x p, e ≠ .Starred x p) : SA X Γ c W (e :: es) (.cons false t ts) := by
  refine PA.imp (pa_cons h1.frz h2 (star_ne hn)) fun σ H Q ⟨G, α, ρ, μ, sm, en, w⟩ => ?_
  exact tF_mono (oneF (c := c) sm en w) fun v H1 ⟨d, G2, α2, μ2, k2, g2, s2, en2, r2, w2⟩ => tFs_mono (many (c := c) s2 en2 w2) fun vs H2 ⟨ds, G5, α5, μ5, k5, g5, s5, en5, r5, w5⟩ =>
    w5.pur s5 (RepL.cons (Rep.mono g5.le g5.pre _ _ r2) r5)
theorem LINE_eq : (LINE : Nat) = sizeLine := by rw [sizeLine_eq]; rfl
theorem se_tup {es : List Expr} {ts : Es} {k : Nat} {pos : Pos} (h : SA X Γ c W es ts) : SE X Γ c W (.Tuple es k pos) (.tup ts) := by
  refine imp (pe_tup h) fun σ H Q ⟨G, α, ρ, μ, sm, en, w⟩ => tFs_mono (many (c := c) sm en w) fun b H1 ⟨ds, G2, α2, μ2, k2, g2, s2, en2, r2, w2⟩ => ?_
  by_cases hl : ds.length ≤ LINE
  · rw [if_pos hl] at w2
    refine ⟨by rw [← r2.length, ← LINE_eq]; exact hl, fun p hp => ?_⟩
    obtain ⟨g3, s3⟩ := alloc (o := .tup b) s2 hp
    refine w2 _ _ _ _ g3 s3 ?_
    simp only [VlR, Rep]
    exact ⟨p, b, rfl, upd_same, RepL.mono g3.le g3.pre _ _ r2⟩
  · rw [if_neg hl] at w2; exact w2.elim
theorem fresh_lst {ds : List D} {vs : List V} {p : Addr} {Q : VK} (sm : Sim Γ G H α μ) (r : RepL Γ G α ds vs) (k : Keep H0 H) (hp : H p = none) (w : Wn Γ W σ G H α (VlR Γ H0) (MW.pur (.frs (.lst ds)) μ) Q) : Q (.ref p) (upd H p (.lst vs)) := by
  obtain ⟨g3, s3⟩ := allocF (o := .lst vs) sm hp
  refine w _ _ _ _ g3 s3 ?_
  obtain ⟨gp, np⟩ := sm.none hp
  exact ⟨p, rfl, gp, np, ⟨vs, upd_same, RepL.mono g3.le g3.pre _ _ r⟩, k.none hp, fun _ _ z => by cases z⟩
theorem fresh_tup {ds : List D} {vs : List V} {p : Addr} {Q : VK} (sm : Sim Γ G H α μ) (r : RepL Γ G α ds vs) (hp : H p = none) (w : Wn Γ W σ G H α (VlR Γ H0) (MW.pur (.dat (.tup ds)) μ) Q) : Q (.ref p) (upd H p (.tup vs)) := by
  obtain ⟨g3, s3⟩ := alloc (o := .tup vs) sm hp
  refine w _ _ _ _ g3 s3 ?_
  simp only [VlR, Rep]
  exact ⟨p, vs, rfl, upd_same, RepL.mono g3.le g3.pre _ _ r⟩
theorem se_lst {es : List Expr} {ts : Es} {pos : Pos} (h : SA X Γ c W es ts) : SE X Γ c W (.List es pos) (.lst ts) := by
  refine imp (pe_lst h) fun σ H Q ⟨G, α, ρ, μ, sm, en, w⟩ => tFs_mono (many (c := c) sm en w) fun b H1 ⟨ds, G2, α2, μ2, k2, g2, s2, en2, r2, w2⟩ => ?_
  by_cases hl : ds.length ≤ LINE
  · rw [if_pos hl] at w2
    exact ⟨by rw [← r2.length, ← LINE_eq]; exact hl, fun p hp => fresh_lst s2 r2 k2 hp w2⟩
  · rw [if_neg hl] at w2; exact w2.elim
end
end MW
namespace MW
open PySem PySem.Spec PyProof.Rows L2
def Bo.op : Bo → Operator
  | .add => .Add | .sub => .Sub | .mul => .Mult | .fdiv => .FloorDiv | .mod => .Mod | .pow => .Pow
section
variable {X : Cx} {Γ : GX} {c : CL} {W : WX} {σ : L2.St} {ρ : List Sl} {G H G1 H1 H0 : Hp} {α α1 : List Addr} {μ μ1 : Mu} {pins : List (Addr × Obj)} {s : Shared} {Q : VK}
theorem small_of {i j : Int} (h : (small i || small j) = true) : CMul i j := by
  simp only [small, Bool.or_eq_true, Bool.and_eq_true, decide_eq_true_eq] at h
  exact h
theorem bin_ok {o : Bo} {p q : D} {z : Vl} {x y : V} {v u : Value} (I : Inv X pins σ H s) (sm : Sim Γ G H α μ) (k : Keep H0 H) (hx : RdR Γ G H α p x) (hy : RdR Γ G H α q y) (rx : RelV x v) (ry : RelV y u) (e : binD o p q = some z)
    (w : Wn Γ W σ G H α (VlR Γ H0) (MW.pur z μ) Q) : wpAny (model X.prog X.w) X.A (binaryOp o.op v u) (EP X pins σ Q) X.xe s := by
  unfold binD at e
  split at e
  · cases e
    have e1 := hx.int; subst e1
    have e2 := hy.int; subst e2
    exact op_add pins s σ H _ _ v u Q I rx ry ⟨_, _, rfl, rfl, w.pur sm (by simp only [VlR, Rep])⟩
  · split at e
    · rename_i hl
      cases e
      have e1 := hx.str; subst e1
      have e2 := hy.str; subst e2
      exact op_add_str pins s σ H _ _ v u Q I rx ry ⟨_, _, rfl, rfl, by rw [← LINE_eq]; exact hl, w.pur sm (by simp only [VlR, Rep])⟩
    · cases e
  · split at e
    · rename_i xs ys hl
      cases e
      obtain ⟨a, vs, rfl, h1, r1⟩ := hx.tup sm
      obtain ⟨b, us, rfl, h2, r2⟩ := hy.tup sm
      refine op_catA pins s σ H _ _ v u Q I rx ry ⟨a, b, vs, us, rfl, rfl, SqT.of h1, SqT.of h2, by rw [← LINE_eq, ← r1.length, ← r2.length]; exact hl, fun e => ?_, fun _ e => ?_, fun _ _ p hp => fresh_tup sm (r1.append r2) hp w⟩
      · subst e
        have e0 : xs = [] := List.eq_nil_of_length_eq_zero (by rw [r1.length]; rfl)
        subst e0
        refine w.pur sm ?_
        rcases hy with hy | ⟨_, _, o⟩
        · exact hy
        · exact o.elim
      · subst e
        have e0 : ys = [] := List.eq_nil_of_length_eq_zero (by rw [r2.length]; rfl)
        subst e0
        refine w.pur sm ?_
        rw [List.append_nil]
        rcases hx with hx | ⟨_, _, o⟩
        · exact hx
        · exact o.elim
    · cases e
  · split at e
    · rename_i hl
      cases e
      obtain ⟨a, vs, rfl, h1, r1⟩ := hx.lst sm
      obtain ⟨b, us, rfl, h2, r2⟩ := hy.lst sm
      exact op_cat pins s σ H _ _ v u Q I rx ry ⟨a, b, vs, us, rfl, rfl, h1, h2, by rw [← LINE_eq, ← r1.length, ← r2.length]; exact hl, fun p hp => fresh_lst sm (r1.append r2) k hp w⟩
    · cases e
  · cases e
    have e1 := hx.int; subst e1
    have e2 := hy.int; subst e2
    exact op_sub pins s σ H _ _ v u Q I rx ry ⟨_, _, rfl, rfl, w.pur sm (by simp only [VlR, Rep])⟩
  · split at e
    · rename_i hl
      cases e
      have e1 := hx.int; subst e1
      have e2 := hy.int; subst e2
      exact op_mul pins s σ H _ _ v u Q I rx ry ⟨_, _, rfl, rfl, small_of hl, w.pur sm (by simp only [VlR, Rep])⟩
    · cases e
  · split at e
    · rename_i hl
      cases e
      obtain ⟨a, vs, rfl, h1, r1⟩ := hx.lst sm
      have e2 := hy.int; subst e2
      simp only [Bool.and_eq_true, decide_eq_true_eq] at hl
      exact op_rep pins s σ H _ _ v u Q I rx ry ⟨a, _, vs, rfl, rfl, h1, hl.1.2, hl.2, by rw [← LINE_eq, ← r1.length]; exact hl.1.1, fun p hp => fresh_lst sm (r1.rep _) k hp w⟩
    · cases e
  · split at e
    · rename_i xs j hl
      cases e
      obtain ⟨a, vs, rfl, h1, r1⟩ := hx.tup sm
      have e2 := hy.int; subst e2
      simp only [Bool.and_eq_true, decide_eq_true_eq] at hl
      have hne : xs ≠ [] := fun e => by rw [e] at hl; exact absurd hl.2 (by simp)
      exact op_repT pins s σ H _ _ v u Q I rx ry ⟨a, _, vs, rfl, rfl, SqT.of h1, fun e => hne (List.eq_nil_of_length_eq_zero (by rw [r1.length, e]; rfl)), hl.1.1.2, hl.1.2, by rw [← r1.length]; exact hl.1.1.1, fun p hp => fresh_tup sm (r1.rep _) hp w⟩
    · cases e
  · split at e
    · rename_i hl
      cases e
      have e1 := hx.int; subst e1
      have e2 := hy.int; subst e2
      simp only [Bool.and_eq_true, decide_eq_true_eq] at hl
      exact op_fdiv pins s σ H _ _ v u Q I rx ry ⟨_, _, rfl, rfl, hl, w.pur sm (by simp only [VlR, Rep])⟩
    · cases e
  · split at e
    · rename_i hl
      cases e
      have e1 := hx.int; subst e1
      have e2 := hy.int; subst e2
      exact op_mod pins s σ H _ _ v u Q I rx ry ⟨_, _, rfl, rfl, of_decide_eq_true hl, w.pur sm (by simp only [VlR, Rep])⟩
    · cases e
  · split at e
    · rename_i hl
      cases e
      have e1 := hx.int; subst e1
      have e2 := hy.int; subst e2
      simp only [Bool.and_eq_true, decide_eq_true_eq] at hl
      exact op_pow pins s σ H _ _ v u Q I rx ry ⟨_, _, rfl, rfl, ⟨hl.1.1, hl.1.2, hl.2⟩, w.pur sm (by simp only [VlR, Rep])⟩
    · cases e
  · cases e
theorem se_bin {o : Bo} {a b : Expr} {ta tb : E} {pos : Pos} (h1 : SE X Γ c W a ta) (h2 : SE X Γ c W b tb) : SE X Γ c W (.BinOp a o.op b pos) (.bin o ta tb) := by
  refine ⟨fun pins s σ H Q I ⟨G, α, ρ, μ, sm, en, w⟩ => ?_⟩
  refine wpAny_BinOp (binT h1 h2 I (two (c := c) sm en w) fun v u s2 x y H2 I2 rx ry ⟨xa, ya, G2, α2, μ2, k2, g2, s2', en2, d1, d2, w2⟩ => ?_)
  obtain ⟨z, e, w3⟩ := w2.opt0
  exact bin_ok I2 s2' k2 (d1.look s2') (d2.look s2') rx ry e w3
theorem se_neg {a : Expr} {ta : E} {pos : Pos} (h1 : SE X Γ c W a ta) : SE X Γ c W (.UnaryOp .USub a pos) (.neg ta) := by
  refine imp (pe_un un_neg h1) fun σ H Q ⟨G, α, ρ, μ, sm, en, w⟩ => tE_mono0 (one (c := c) sm en w) fun v H1 ⟨x, G2, α2, μ2, k2, g2, s2, en2, r2, w2⟩ => ?_
  have dr := r2.datR
  generalize x.d = d at w2 dr
  cases d with
  | int i =>
    have e1 := dr.int
    subst e1
    exact ⟨i, rfl, w2.pur s2 (by simp only [VlR, Rep])⟩
  | _ => exact w2.elim
end
end MW
namespace MW
open PySem PySem.Spec PyProof.Rows L2
mutual
def toPy : D → PyData
  | .non => .none
  | .bl b => .bool b
  | .int i => .int i
  | .str x => .str x
  | .tup xs => .tuple (toPys xs)
  | .lst xs => .list (toPys xs)
  | _ => .none
def toPys : List D → List PyData
  | [] => []
  | x :: xs => toPy x :: toPys xs
end
mutual
theorem plain_py : ∀ (n : Nat) (d : D), plain n d = true → (toPy d).canLay0 = true ∧ (toPy d).depth ≤ n
  | n, .non, _ => by simp [toPy, PyData.canLay0, PyData.depth]
  | n, .bl _, _ => by simp [toPy, PyData.canLay0, PyData.depth]
  | n, .int _, _ => by simp [toPy, PyData.canLay0, PyData.depth]
  | n, .str x, h => by
    refine ⟨?_, by simp [toPy, PyData.depth]⟩
    simp only [plain] at h
    simp only [toPy, PyData.canLay0]
    exact h
  | n, .tup xs, h => by
    simp only [plain] at h
    obtain ⟨m, rfl, a, b⟩ := plains_py n xs h
    exact ⟨by simp only [toPy, PyData.canLay0]; exact a, by simp only [toPy, PyData.depth]; omega⟩
  | n, .lst xs, h => by
    simp only [plain] at h
    obtain ⟨m, rfl, a, b⟩ := plains_py n xs h
    exact ⟨by simp only [toPy, PyData.canLay0]; exact a, by simp only [toPy, PyData.depth]; omega⟩
  | n, .dct _, h => by simp [plain] at h
  | n, .ins _ _, h => by simp [plain] at h
  | n, .ref _, h => by simp [plain] at h
  | n, .scr _, h => by simp [plain] at h
theorem plains_py : ∀ (n : Nat) (xs : List D), plains n xs = true → ∃ m, n = m + 1 ∧ PyData.canLayAll0 (toPys xs) = true ∧ PyData.depthAll (toPys xs) ≤ m
  | 0, xs, h => by simp [plains] at h
  | n + 1, [], _ => ⟨n, rfl, by simp [toPys, PyData.canLayAll0], by simp [toPys, PyData.depthAll]⟩
  | n + 1, x :: xs, h => by
    simp only [plains, Bool.and_eq_true] at h
    obtain ⟨a, b⟩ := plain_py n x h.1
    obtain ⟨m, e, c, d⟩ := plains_py (n + 1) xs h.2
    have e' : m = n := by omega
    subst e'
    refine ⟨m, rfl, by simp only [toPys, PyData.canLayAll0, a, c, Bool.and_true], ?_⟩
    simp only [toPys, PyData.depthAll]
    exact Nat.max_le.mpr ⟨b, d⟩
end
theorem shaped_of {d : D} (h : plain64 d = true) : SeqAt.shaped (toPy d) = true := by
  obtain ⟨a, b⟩ := plain_py 60 d h
  show ((toPy d).canLay0 && decide ((toPy d).depth ≤ 64)) = true
  rw [Bool.and_eq_true]
  exact ⟨a, decide_eq_true (by omega)⟩
mutual
theorem eq_py : ∀ (n m : Nat) (a b : D), plain n a = true → plain m b = true → PyData.eqv (toPy a) (toPy b) = eqD a b
  | n, m, .non, b, _, h => by cases b <;> first | (simp only [toPy, PyData.eqv, eqD]; done) | (simp [plain] at h; done)
  | n, m, .bl _, b, _, h => by cases b <;> first | (simp only [toPy, PyData.eqv, eqD]; done) | (simp [plain] at h; done)
  | n, m, .int _, b, _, h => by cases b <;> first | (simp only [toPy, PyData.eqv, eqD]; done) | (simp [plain] at h; done)
  | n, m, .str x, b, _, h => by cases b <;> first | (simp only [toPy, PyData.eqv, eqD]; done) | (simp [plain] at h; done)
  | n, m, .tup xs, b, h1, h => by
    cases b <;> first | (simp only [toPy, PyData.eqv, eqD]; done) | (simp [plain] at h; done) | skip
    rename_i ys
    simp only [plain] at h1 h
    simp only [toPy, PyData.eqv, eqD]
    exact eqs_py n m xs ys h1 h
  | n, m, .lst xs, b, h1, h => by
    cases b <;> first | (simp only [toPy, PyData.eqv, eqD]; done) | (simp [plain] at h; done) | skip
    rename_i ys
    simp only [plain] at h1 h
    simp only [toPy, PyData.eqv, eqD]
    exact eqs_py n m xs ys h1 h
  | n, m, .dct _, b, h, _ => by simp [plain] at h
  | n, m, .ins _ _, b, h, _ => by simp [plain] at h
  | n, m, .ref _, b, h, _ => by simp [plain] at h
  | n, m, .scr _, b, h, _ => by simp [plain] at h
theorem eqs_py : ∀ (n m : Nat) (xs ys : List D), plains n xs = true → plains m ys = true → PyData.eqvAll (toPys xs) (toPys ys) = eqDs xs ys
  | n, m, [], [], _, _ => by simp only [toPys, PyData.eqvAll, eqDs]
  | n, m, [], _ :: _, _, _ => by simp only [toPys, PyData.eqvAll, eqDs]
  | n, m, _ :: _, [], _, _ => by simp only [toPys, PyData.eqvAll, eqDs]
  | 0, m, x :: xs, y :: ys, h1, _ => by simp [plains] at h1
  | n, 0, x :: xs, y :: ys, _, h2 => by simp [plains] at h2
  | n + 1, m + 1, x :: xs, y :: ys, h1, h2 => by
    simp only [plains, Bool.and_eq_true] at h1 h2
    simp only [toPys, PyData.eqvAll, eqDs]
    rw [eq_py n m x y h1.1 h2.1, eqs_py (n + 1) (m + 1) xs ys h1.2 h2.2]
end
section
variable {X : Cx} {Γ : GX} {c : CL} {W : WX} {σ : L2.St} {ρ : List Sl} {G H G1 H1 H0 : Hp} {α α1 : List Addr} {μ μ1 : Mu} {pins : List (Addr × Obj)} {s : Shared} {Q : VK}
mutual
theorem Rep.dp {K : PySem.W.Frag} (sm : Sim Γ G H α μ) : ∀ (n : Nat) (d : D) (v : V), plain n d = true → Rep Γ G α d v → Dp K H v (toPy d)
  | n, .non, v, _, h => by simp only [Rep] at h; subst h; exact .non
  | n, .bl b, v, _, h => by simp only [Rep] at h; subst h; exact .bl b
  | n, .int i, v, _, h => by simp only [Rep] at h; subst h; exact .int i
  | n, .str x, v, _, h => by simp only [Rep] at h; subst h; exact .str x
  | n, .tup xs, v, p, h => by
    simp only [Rep] at h
    simp only [plain] at p
    obtain ⟨a, vs, rfl, g, r⟩ := h
    simp only [toPy]
    exact .tup (SqT.of (sm.sub _ _ g)) (RepL.dp sm n xs vs p r)
  | n, .lst xs, v, p, h => by
    simp only [Rep] at h
    simp only [plain] at p
    obtain ⟨a, vs, rfl, g, r⟩ := h
    simp only [toPy]
    exact .lst (SqL.of (sm.sub _ _ g)) (RepL.dp sm n xs vs p r)
  | n, .dct _, _, p, _ => by simp [plain] at p
  | n, .ins _ _, _, p, _ => by simp [plain] at p
  | n, .ref _, _, p, _ => by simp [plain] at p
  | n, .scr _, _, p, _ => by simp [plain] at p
theorem RepL.dp {K : PySem.W.Frag} (sm : Sim Γ G H α μ) : ∀ (n : Nat) (ds : List D) (vs : List V), plains n ds = true → RepL Γ G α ds vs → DpAll K H vs (toPys ds)
  | n, [], vs, _, h => by simp only [RepL] at h; subst h; simp only [toPys]; exact .nil
  | 0, x :: xs, vs, p, h => by simp [plains] at p
  | n + 1, x :: xs, vs, p, h => by
    simp only [plains, Bool.and_eq_true] at p
    simp only [RepL] at h
    obtain ⟨v, r, rfl, h1, h2⟩ := h
    simp only [toPys]
    exact .cons (Rep.dp sm n x v p.1 h1) (RepL.dp sm (n + 1) xs r p.2 h2)
end
theorem RdR.dp {K : PySem.W.Frag} (sm : Sim Γ G H α μ) {d : D} {v : V} (p : plain64 d = true) (h : RdR Γ G H α d v) : Dp K H v (toPy d) := by
  rcases h with h | ⟨a, rfl, o⟩
  · exact Rep.dp sm 60 d v p h
  · cases d with
    | lst xs =>
      obtain ⟨vs, h1, h2⟩ := o
      simp only [plain64, plain] at p
      simp only [toPy]
      exact .lst (SqL.of h1) (RepL.dp sm 60 xs vs p h2)
    | dct _ => simp [plain64, plain] at p
    | ins _ _ => simp [plain64, plain] at p
    | _ => exact o.elim
def Lo.op : Lo → CmpOp
  | .lt => .Lt | .le => .LtE | .gt => .Gt | .ge => .GtE
theorem rc_int {A : Around} (o : Lo) (a b : Int) (t u : Tok) : Ob.RcOp o.op A s (.int a t) (.int b u) (o.int a b) := by
  cases o
  · exact Ob.RcOp.lt_int _ _ _ _
  · exact Ob.RcOp.le_int _ _ _ _
  · exact Ob.RcOp.gt_int _ _ _ _
  · exact Ob.RcOp.ge_int _ _ _ _
theorem rc_str {A : Around} (o : Lo) (a b : Str) (t u : Tok) : Ob.RcOp o.op A s (.str a t) (.str b u) (o.str a b) := by
  cases o
  · exact fun prog w E Q h => PyProof.Rows.lt_str h
  · exact fun prog w E Q h => PySem.P.le_str h
  · exact fun prog w E Q h => PySem.P.gt_str h
  · exact fun prog w E Q h => PySem.P.ge_str h
theorem rc_tup {A : Around} (o : Lo) {l b : Addr} {items items2 : Array Value} {e r : Nat → Bool} (hl : s.heap.IsTuple l items) (hb : s.heap.IsTuple b items2) (hu : A.units < cLine)
    (he : ∀ j (h1 : j < items.size) (h2 : j < items2.size), SeqAt.EqAt A.in1 s items[j] items2[j] (e j))
    (hr : ∀ j (h1 : j < items.size) (h2 : j < items2.size), e j = false → Ob.RcOp o.op A.in1 s items[j] items2[j] (r j)) :
    Ob.RcOp o.op A s (.ref l) (.ref b) (Ob.lexAt e r (o.len items.size items2.size) 0 (min items.size items2.size)) := by
  cases o
  · exact Ob.RcOp.tuples_lt hl hb hu he hr
  · exact Ob.RcOp.tuples_le hl hb hu he hr
  · exact Ob.RcOp.tuples_gt hl hb hu he hr
  · exact Ob.RcOp.tuples_ge hl hb hu he hr
theorem len_add (o : Lo) (i a b : Nat) : o.len (i + a) (i + b) = o.len a b := by
  cases o <;> simp [Lo.len]
theorem ords_lex (o : Lo) : ∀ (xs ys : List D) (b : Bool) (i : Nat) (e r : Nat → Bool), ordDs o xs ys = some b →
    (∀ j, j < xs.length → j < ys.length → e (i + j) = eqD (xs.getD j .non) (ys.getD j .non)) → (∀ j, j < xs.length → j < ys.length → r (i + j) = (ordD o (xs.getD j .non) (ys.getD j .non)).getD false) →
    Ob.lexAt e r (o.len (i + xs.length) (i + ys.length)) i (min xs.length ys.length) = b
  | [], [], b, i, e, r, h, _, _ => by
    simp only [ordDs, Option.some.injEq] at h
    subst h
    exact len_add o i 0 0
  | [], y :: ys, b, i, e, r, h, _, _ => by
    simp only [ordDs, Option.some.injEq] at h
    subst h
    rw [List.length_nil, Nat.zero_min, Ob.lexAt_zero, len_add]
    cases o <;> simp [Lo.len]
  | x :: xs, [], b, i, e, r, h, _, _ => by
    simp only [ordDs, Option.some.injEq] at h
    subst h
    rw [List.length_nil, Nat.min_zero, Ob.lexAt_zero, len_add]
    cases o <;> simp [Lo.len]
  | x :: xs, y :: ys, b, i, e, r, h, he, hr => by
    have h0 := he 0 (by simp) (by simp)
    have r0 := hr 0 (by simp) (by simp)
    rw [Nat.add_zero] at h0 r0
    simp only [List.getD_cons_zero] at h0 r0
    simp only [ordDs] at h
    cases q : ordDs o xs ys with
    | none => rw [q] at h; cases h
    | some b' =>
      rw [q] at h
      simp only at h
      rw [List.length_cons, List.length_cons, Nat.succ_min_succ, Ob.lexAt_succ, h0]
      by_cases z : eqD x y = true
      · rw [if_pos z] at h ⊢
        cases h
        have ih := ords_lex o xs ys b (i + 1) e r q (fun j a1 a2 => ?_) (fun j a1 a2 => ?_)
        · rw [show i + (xs.length + 1) = i + 1 + xs.length from by omega, show i + (ys.length + 1) = i + 1 + ys.length from by omega]
          exact ih
        · have := he (j + 1) (by simp; omega) (by simp; omega)
          rw [show i + 1 + j = i + (j + 1) from by omega, this, List.getD_cons_succ, List.getD_cons_succ]
        · have := hr (j + 1) (by simp; omega) (by simp; omega)
          rw [show i + 1 + j = i + (j + 1) from by omega, this, List.getD_cons_succ, List.getD_cons_succ]
      · rw [if_neg z] at h ⊢
        rw [r0, h]; rfl
theorem ords_some (o : Lo) : ∀ (xs ys : List D) (b : Bool), ordDs o xs ys = some b → ∀ j, j < xs.length → j < ys.length → eqD (xs.getD j .non) (ys.getD j .non) = false → ∃ r, ordD o (xs.getD j .non) (ys.getD j .non) = some r
  | [], _, _, _, j, h, _, _ => absurd h (Nat.not_lt_zero _)
  | _ :: _, [], _, _, j, _, h, _ => absurd h (Nat.not_lt_zero _)
  | x :: xs, y :: ys, b, h, j, a1, a2, ne => by
    simp only [ordDs] at h
    cases q : ordDs o xs ys with
    | none => rw [q] at h; cases h
    | some b' =>
      rw [q] at h
      simp only at h
      cases j with
      | zero =>
        simp only [List.getD_cons_zero] at ne ⊢
        rw [ne, if_neg Bool.false_ne_true] at h
        exact ⟨b, h⟩
      | succ j =>
        simp only [List.getD_cons_succ] at ne ⊢
        exact ords_some o xs ys b' q j (by simpa using a1) (by simpa using a2) ne
theorem plains_get : ∀ {n : Nat} {xs : List D} {j : Nat}, plains (n + 1) xs = true → j < xs.length → plain n (xs.getD j .non) = true
  | n, [], j, _, h => absurd h (Nat.not_lt_zero _)
  | n, x :: xs, 0, p, _ => by
    simp only [plains, Bool.and_eq_true] at p
    exact p.1
  | n, x :: xs, j + 1, p, h => by
    simp only [plains, Bool.and_eq_true] at p
    rw [List.getD_cons_succ]
    exact plains_get p.2 (by simpa using h)
theorem ord_at (I : Inv X pins σ H s) (sm : Sim Γ G H α μ) (o : Lo) : ∀ (n : Nat) (A : Around) (a b : D) (x y : V) (v u : Value) (r : Bool), plain n a = true → plain n b = true → ordD o a b = some r → Rep Γ G α a x → Rep Γ G α b y → RelV x v → RelV y u → A.units + n < cLine → Ob.RcOp o.op A s v u r
  | n, A, .int i, b, x, y, v, u, r, _, _, h, ra, rb, rx, ry, _ => by
    cases b <;> first | (simp [ordD] at h; done) | skip
    simp only [ordD, Option.some.injEq] at h
    simp only [Rep] at ra rb
    subst ra; subst rb; subst h
    obtain ⟨t, rfl⟩ := rx
    obtain ⟨t', rfl⟩ := ry
    exact rc_int o _ _ _ _
  | n, A, .str i, b, x, y, v, u, r, _, _, h, ra, rb, rx, ry, _ => by
    cases b <;> first | (simp [ordD] at h; done) | skip
    simp only [ordD, Option.some.injEq] at h
    simp only [Rep] at ra rb
    subst ra; subst rb; subst h
    obtain ⟨t, rfl⟩ := rx
    obtain ⟨t', rfl⟩ := ry
    exact rc_str o _ _ _ _
  | 0, A, .tup xs, b, x, y, v, u, r, pa, _, h, ra, rb, rx, ry, _ => by simp [plain, plains] at pa
  | n + 1, A, .tup xs, b, x, y, v, u, r, pa, pb, h, ra, rb, rx, ry, hu => by
    cases b <;> first | (simp [ordD] at h; done) | skip
    rename_i ys
    simp only [plain] at pa pb
    simp only [ordD] at h
    simp only [Rep] at ra rb
    obtain ⟨l, vs, rfl, gl, rl⟩ := ra
    obtain ⟨b, us, rfl, gb, rb⟩ := rb
    cases rx
    cases ry
    obtain ⟨its, r1, p1, _⟩ := I.tuple (SqT.of (sm.sub _ _ gl))
    obtain ⟨its2, r2, p2, _⟩ := I.tuple (SqT.of (sm.sub _ _ gb))
    have e1 : its.toArray.size = xs.length := by rw [List.size_toArray, ← r1.length, ← rl.length]
    have e2 : its2.toArray.size = ys.length := by rw [List.size_toArray, ← r2.length, ← rb.length]
    have at1 : ∀ j (h1 : j < its.toArray.size), ∃ z, Rep Γ G α (xs.getD j .non) z ∧ RelV z its.toArray[j] := fun j h1 => by
      have h1' : j < xs.length := by omega
      obtain ⟨z, z1, z2⟩ := rl.get (i := j) (d := xs.getD j .non) (by rw [List.getD_eq_getElem?_getD, List.getElem?_eq_getElem h1']; rfl)
      obtain ⟨w, w1, w2⟩ := r1.get z1
      refine ⟨z, z2, ?_⟩
      have : its.toArray[j] = w := by
        rw [List.getElem?_eq_getElem (by simpa using h1)] at w1
        have := Option.some.inj w1
        simpa using this
      rw [this]; exact w2
    have at2 : ∀ j (h1 : j < its2.toArray.size), ∃ z, Rep Γ G α (ys.getD j .non) z ∧ RelV z its2.toArray[j] := fun j h1 => by
      have h1' : j < ys.length := by omega
      obtain ⟨z, z1, z2⟩ := rb.get (i := j) (d := ys.getD j .non) (by rw [List.getD_eq_getElem?_getD, List.getElem?_eq_getElem h1']; rfl)
      obtain ⟨w, w1, w2⟩ := r2.get z1
      refine ⟨z, z2, ?_⟩
      have : its2.toArray[j] = w := by
        rw [List.getElem?_eq_getElem (by simpa using h1)] at w1
        have := Option.some.inj w1
        simpa using this
      rw [this]; exact w2
    have R := rc_tup (A := A) (s := s) o (e := fun j => eqD (xs.getD j .non) (ys.getD j .non)) (r := fun j => (ordD o (xs.getD j .non) (ys.getD j .non)).getD false) (show s.heap.IsTuple l its.toArray from p1) (show s.heap.IsTuple b its2.toArray from p2) (by omega) (fun j h1 h2 => ?_) (fun j h1 h2 ne => ?_)
    · rw [e1, e2] at R
      have L := ords_lex o xs ys r 0 (fun j => eqD (xs.getD j .non) (ys.getD j .non)) (fun j => (ordD o (xs.getD j .non) (ys.getD j .non)).getD false) h (fun j _ _ => by rw [Nat.zero_add]) (fun j _ _ => by rw [Nat.zero_add])
      rw [Nat.zero_add, Nat.zero_add] at L
      rw [L] at R
      exact R
    · obtain ⟨z, z1, z2⟩ := at1 j h1
      obtain ⟨w, w1, w2⟩ := at2 j h2
      have q1 := plains_get pa (show j < xs.length by omega)
      have q2 := plains_get pb (show j < ys.length by omega)
      obtain ⟨as, f1⟩ := Dp.reads I _ z _ (Rep.dp (K := X.K) sm n _ _ q1 z1) z2
      obtain ⟨bs, f2⟩ := Dp.reads I _ w _ (Rep.dp (K := X.K) sm n _ _ q2 w1) w2
      obtain ⟨c1, d1⟩ := plain_py n _ q1
      obtain ⟨c2, d2⟩ := plain_py n _ q2
      have := SeqAt.eqAt_reads _ _ A.in1 s _ _ as bs f1 f2 c1 c2 (by
        have hu2 : A.in1.units = A.units + 1 := rfl
        have hm : min (toPy (xs.getD j .non)).depth (toPy (ys.getD j .non)).depth ≤ n := Nat.le_trans (Nat.min_le_left _ _) d1
        rw [hu2]; omega)
      rw [eq_py n n _ _ q1 q2] at this
      exact this
    · obtain ⟨z, z1, z2⟩ := at1 j h1
      obtain ⟨w, w1, w2⟩ := at2 j h2
      have q1 := plains_get pa (show j < xs.length by omega)
      have q2 := plains_get pb (show j < ys.length by omega)
      obtain ⟨r', hr'⟩ := ords_some o xs ys r h j (by omega) (by omega) ne
      have := ord_at I sm o n A.in1 _ _ z w _ _ r' q1 q2 hr' z1 w1 z2 w2 (by
        have hu2 : A.in1.units = A.units + 1 := rfl
        rw [hu2]; omega)
      show Ob.RcOp o.op A.in1 s _ _ ((ordD o (xs.getD j .non) (ys.getD j .non)).getD false)
      rw [hr']
      exact this
  | n, A, .non, b, x, y, v, u, r, _, _, h, _, _, _, _, _ => by simp [ordD] at h
  | n, A, .bl _, b, x, y, v, u, r, _, _, h, _, _, _, _, _ => by simp [ordD] at h
  | n, A, .lst _, b, x, y, v, u, r, _, _, h, _, _, _, _, _ => by simp [ordD] at h
  | n, A, .dct _, b, x, y, v, u, r, _, _, h, _, _, _, _, _ => by simp [ordD] at h
  | n, A, .ins _ _, b, x, y, v, u, r, _, _, h, _, _, _, _, _ => by simp [ordD] at h
  | n, A, .ref _, b, x, y, v, u, r, _, _, h, _, _, _, _, _ => by simp [ordD] at h
  | n, A, .scr _, b, x, y, v, u, r, _, _, h, _, _, _, _, _ => by simp [ordD] at h
termination_by n => n
theorem ordD_rep {o : Lo} {a b : D} {r : Bool} {x : V} (h : ordD o a b = some r) (hx : RdR Γ G H α a x) : Rep Γ G α a x := by
  rcases hx with hx | ⟨_, _, ow⟩
  · exact hx
  · cases a <;> first | exact ow.elim | (simp [ordD] at h; done)
theorem ordD_rep2 {o : Lo} {a b : D} {r : Bool} {x : V} (h : ordD o a b = some r) (hx : RdR Γ G H α b x) : Rep Γ G α b x := by
  rcases hx with hx | ⟨_, _, ow⟩
  · exact hx
  · cases b <;> first | exact ow.elim | (cases a <;> (simp [ordD] at h; done))
end
end MW
namespace MW
open PySem PySem.Spec PyProof.Rows L2
mutual
theorem key_norm : ∀ (n : Nat) (d : D), isKey n d = true → ∃ k, normK d = some k ∧ k.depth ≤ n
  | n, .non, _ => ⟨_, rfl, by simp [NestedKey.depth]⟩
  | n, .int i, _ => ⟨_, rfl, by simp [NestedKey.depth]⟩
  | n, .bl i, _ => ⟨_, rfl, by simp [NestedKey.depth]⟩
  | n, .str i, _ => ⟨_, rfl, by simp [NestedKey.depth]⟩
  | n, .tup xs, h => by
    simp only [isKey] at h
    obtain ⟨m, ks, rfl, e, l⟩ := keys_norm n xs h
    exact ⟨.tup ks, by simp only [normK, e, Option.map_some], by simp only [NestedKey.depth]; omega⟩
  | n, .lst _, h => by simp [isKey] at h
  | n, .dct _, h => by simp [isKey] at h
  | n, .ins _ _, h => by simp [isKey] at h
  | n, .ref _, h => by simp [isKey] at h
  | n, .scr _, h => by simp [isKey] at h
theorem keys_norm : ∀ (n : Nat) (xs : List D), isKeys n xs = true → ∃ m ks, n = m + 1 ∧ normKs xs = some ks ∧ NestedKey.depthAll ks ≤ m
  | 0, xs, h => by simp [isKeys] at h
  | n + 1, [], _ => ⟨n, [], rfl, rfl, by simp [NestedKey.depthAll]⟩
  | n + 1, x :: xs, h => by
    simp only [isKeys, Bool.and_eq_true] at h
    obtain ⟨k, e, l⟩ := key_norm n x h.1
    obtain ⟨m, ks, e1, e2, l2⟩ := keys_norm (n + 1) xs h.2
    have em : m = n := by omega
    subst em
    refine ⟨m, k :: ks, rfl, by simp only [normKs, e, e2, Option.bind_some, Option.map_some], ?_⟩
    simp only [NestedKey.depthAll]
    exact Nat.max_le.mpr ⟨l, l2⟩
end
mutual
theorem eq_norm : ∀ (a b : D) (x y : NestedKey), normK a = some x → normK b = some y → eqD a b = NestedKey.beq x y
  | .non, b, x, y, h1, h2 => by
    simp only [normK, Option.some.injEq] at h1; subst h1
    cases b <;> simp only [normK, Option.some.injEq, Option.map_eq_some_iff, reduceCtorEq] at h2 <;> first | (subst h2; simp [eqD, NestedKey.beq]; done) | (obtain ⟨ks, _, rfl⟩ := h2; simp [eqD, NestedKey.beq]; done)
  | .int i, b, x, y, h1, h2 => by
    simp only [normK, Option.some.injEq] at h1; subst h1
    cases b <;> simp only [normK, Option.some.injEq, Option.map_eq_some_iff, reduceCtorEq] at h2 <;> first | (subst h2; simp [eqD, NestedKey.beq, Bool.beq_eq_decide_eq]; done) | (obtain ⟨ks, _, rfl⟩ := h2; simp [eqD, NestedKey.beq]; done)
  | .bl i, b, x, y, h1, h2 => by
    simp only [normK, Option.some.injEq] at h1; subst h1
    cases b <;> simp only [normK, Option.some.injEq, Option.map_eq_some_iff, reduceCtorEq] at h2 <;> first
      | (subst h2; simp [eqD, NestedKey.beq, Bool.beq_eq_decide_eq]; done)
      | (subst h2; rename_i j; cases i <;> cases j <;> rfl)
      | (obtain ⟨ks, _, rfl⟩ := h2; simp [eqD, NestedKey.beq]; done)
  | .str i, b, x, y, h1, h2 => by
    simp only [normK, Option.some.injEq] at h1; subst h1
    cases b <;> simp only [normK, Option.some.injEq, Option.map_eq_some_iff, reduceCtorEq] at h2 <;> first | (subst h2; simp [eqD, NestedKey.beq, Bool.beq_eq_decide_eq]; done) | (obtain ⟨ks, _, rfl⟩ := h2; simp [eqD, NestedKey.beq]; done)
  | .tup xs, b, x, y, h1, h2 => by
    simp only [normK, Option.map_eq_some_iff] at h1
    obtain ⟨ks, e1, rfl⟩ := h1
    cases b <;> simp only [normK, Option.some.injEq, Option.map_eq_some_iff, reduceCtorEq] at h2 <;> first | (subst h2; simp [eqD, NestedKey.beq]; done) | skip
    obtain ⟨ks2, e2, rfl⟩ := h2
    simp only [eqD, NestedKey.beq]
    exact eqs_norm xs _ ks ks2 e1 e2
  | .lst _, b, x, y, h1, _ => by simp [normK] at h1
  | .dct _, b, x, y, h1, _ => by simp [normK] at h1
  | .ins _ _, b, x, y, h1, _ => by simp [normK] at h1
  | .ref _, b, x, y, h1, _ => by simp [normK] at h1
  | .scr _, b, x, y, h1, _ => by simp [normK] at h1
theorem eqs_norm : ∀ (a b : List D) (x y : List NestedKey), normKs a = some x → normKs b = some y → eqDs a b = NestedKey.beqAll x y
  | [], [], x, y, h1, h2 => by
    simp only [normKs, Option.some.injEq] at h1 h2; subst h1; subst h2; rfl
  | [], b :: bs, x, y, h1, h2 => by
    simp only [normKs, Option.some.injEq] at h1; subst h1
    simp only [normKs, Option.bind_eq_some_iff, Option.map_eq_some_iff] at h2
    obtain ⟨k, _, ks, _, rfl⟩ := h2
    simp [eqDs, NestedKey.beqAll]
  | a :: as, [], x, y, h1, h2 => by
    simp only [normKs, Option.some.injEq] at h2; subst h2
    simp only [normKs, Option.bind_eq_some_iff, Option.map_eq_some_iff] at h1
    obtain ⟨k, _, ks, _, rfl⟩ := h1
    simp [eqDs, NestedKey.beqAll]
  | a :: as, b :: bs, x, y, h1, h2 => by
    simp only [normKs, Option.bind_eq_some_iff, Option.map_eq_some_iff] at h1 h2
    obtain ⟨k, e1, ks, e2, rfl⟩ := h1
    obtain ⟨k', f1, ks', f2, rfl⟩ := h2
    simp only [eqDs, NestedKey.beqAll]
    rw [eq_norm a b k k' e1 f1, eqs_norm as bs ks ks' e2 f2]
end
section
variable {X : Cx} {Γ : GX} {c : CL} {W : WX} {σ : L2.St} {ρ : List Sl} {G H G1 H1 H0 : Hp} {α α1 : List Addr} {μ μ1 : Mu} {pins : List (Addr × Obj)} {s : Shared} {Q : VK}
mutual
theorem Rep.key (I : Inv X pins σ H s) (sm : Sim Γ G H α μ) : ∀ (d : D) (k : NestedKey) (v : V) (u : Value), normK d = some k → Rep Γ G α d v → RelV v u → NestedIs s.heap k u
  | .non, k, v, u, h, r, rv => by
    simp only [normK, Option.some.injEq] at h; subst h
    simp only [Rep] at r; subst r; cases rv; exact .none
  | .int i, k, v, u, h, r, rv => by
    simp only [normK, Option.some.injEq] at h; subst h
    simp only [Rep] at r; subst r; obtain ⟨t, rfl⟩ := rv; exact .int _ _
  | .bl b, k, v, u, h, r, rv => by
    simp only [normK, Option.some.injEq] at h; subst h
    simp only [Rep] at r; subst r; cases rv; exact .bool rfl
  | .str x, k, v, u, h, r, rv => by
    simp only [normK, Option.some.injEq] at h; subst h
    simp only [Rep] at r; subst r; obtain ⟨t, rfl⟩ := rv; exact .text _ _
  | .tup xs, k, v, u, h, r, rv => by
    simp only [normK, Option.map_eq_some_iff] at h
    obtain ⟨ks, e1, rfl⟩ := h
    simp only [Rep] at r
    obtain ⟨a, vs, rfl, g, rl⟩ := r
    cases rv
    obtain ⟨its, r1, ⟨o, ho, hc, n, hd⟩, _⟩ := I.tuple (SqT.of (sm.sub _ _ g))
    exact .tup ho hc hd (by simpa using RepL.keys I sm xs ks vs its e1 rl r1)
  | .lst _, k, v, u, h, _, _ => by simp [normK] at h
  | .dct _, k, v, u, h, _, _ => by simp [normK] at h
  | .ins _ _, k, v, u, h, _, _ => by simp [normK] at h
  | .ref _, k, v, u, h, _, _ => by simp [normK] at h
  | .scr _, k, v, u, h, _, _ => by simp [normK] at h
theorem RepL.keys (I : Inv X pins σ H s) (sm : Sim Γ G H α μ) : ∀ (ds : List D) (ks : List NestedKey) (vs : List V) (us : List Value), normKs ds = some ks → RepL Γ G α ds vs → Vals vs us → NestedAll s.heap ks us
  | [], ks, vs, us, h, r, rv => by
    simp only [normKs, Option.some.injEq] at h; subst h
    simp only [RepL] at r; subst r
    cases rv; exact .nil
  | d :: ds, ks, vs, us, h, r, rv => by
    simp only [normKs, Option.bind_eq_some_iff, Option.map_eq_some_iff] at h
    obtain ⟨k, e1, kr, e2, rfl⟩ := h
    simp only [RepL] at r
    obtain ⟨v, vr, rfl, r1, r2⟩ := r
    cases rv with
    | cons q1 q2 => exact .cons (Rep.key I sm d k v _ e1 r1 q1) (RepL.keys I sm ds kr vr _ e2 r2 q2)
end
theorem key_at (I : Inv X pins σ H s) (sm : Sim Γ G H α μ) {d : D} {v : V} {u : Value} (h : keyOk d = true) (r : RdR Γ G H α d v) (rv : RelV v u) : ∃ k a, normK d = some k ∧ v = .ref a ∧ u = .ref a ∧ (nestedKind X.prog X.w).is s.heap k a ∧ Rep Γ G α d (.ref a) := by
  cases d <;> first | exact absurd (show false = true from h) Bool.false_ne_true | skip
  rename_i xs
  have r' : Rep Γ G α (.tup xs) v := by
    rcases r with r | ⟨_, _, o⟩
    · exact r
    · exact o.elim
  obtain ⟨k, e, l⟩ := key_norm 4 (.tup xs) (by simp only [isKey]; exact h)
  have q := Rep.key I sm (.tup xs) k v u e r' rv
  have rr := r'
  simp only [Rep] at rr
  obtain ⟨a, vs, rfl, _, _⟩ := rr
  cases rv
  exact ⟨k, a, e, rfl, rfl, ⟨q, by omega⟩, r'⟩
abbrev EntP (p : Kd × Addr × V) (q : Kd × Addr × Value) : Prop := p.1 = q.1 ∧ p.2.1 = q.2.1 ∧ RelV p.2.2 q.2.2
theorem EntP.keys : ∀ {es : List (Kd × Addr × V)} {ys : List (Kd × Addr × Value)}, Paired EntP es ys → ys.map (·.1) = es.map (·.1)
  | _, _, .nil => rfl
  | _, _, .cons q r => by rw [List.map_cons, List.map_cons, q.1, EntP.keys r]
theorem keys_at (I : Inv X pins σ H s) (sm : Sim Γ G H α μ) : ∀ (kvs : List (D × D)) (es : List (Kd × Addr × V)) (ys : List (Kd × Addr × Value)), RepK Γ G α kvs es → Paired EntP es ys → ∀ x ∈ ys, (nestedKind X.prog X.w).is s.heap x.1 x.2.1
  | [], es, ys, h, p, x, hx => by
    simp only [RepK] at h; subst h
    cases p
    cases hx
  | (k, d) :: r, es, ys, h, p, x, hx => by
    simp only [RepK] at h
    obtain ⟨e, er, rfl, hp, hr⟩ := h
    simp only [RepP] at hp
    obtain ⟨⟨ko, nk⟩, rk, _⟩ := hp
    cases p with
    | cons q qs =>
      rcases List.mem_cons.mp hx with rfl | hx
      · obtain ⟨k', a, e1, e2, _, is, _⟩ := key_at I sm ko (.inl rk) (u := .ref e.2.1) rfl
        cases e2
        rw [nk] at e1
        cases e1
        rw [← q.1, ← q.2.1]
        exact is
      · exact keys_at I sm r er _ hr qs x hx
theorem dict_of (I : Inv X pins σ H s) (sm : Sim Γ G H α μ) (hΓ : Γ.P = X.prog ∧ Γ.w = X.w) {a : Addr} {kvs : List (D × D)} {es : List (Kd × Addr × V)} (h : Rd H a (dicHO Γ.P Γ.w a es)) (r : RepK Γ G α kvs es) :
    (a == sysModules) = false ∧ es.length ≤ sizeLine ∧ ∃ ys : List (Kd × Addr × Value), Paired EntP es ys ∧ s.heap.DictOfH (nestedKind X.prog X.w) a ys := by
  obtain ⟨e1, e2⟩ := hΓ
  have ok : ObjOk X.prog X.w H s.heap a (dicHO Γ.P Γ.w a es) := h.ok I.hok
  obtain ⟨⟨h1, h2, h3, o, ents, ep, ys, ho, hx, hd, pr, he⟩, _, _⟩ := ok
  rw [e1, e2] at he
  refine ⟨h1, h2, ys, pr, o, ents, ep, ho, hx, hd, he, ?_, ?_⟩
  · -- each key is one
    exact keys_at I sm kvs es ys r pr
  · rw [EntP.keys pr]; exact h3
def atV (es : List (Kd × Addr × V)) (k : Kd) : Option V := (es.find? fun x => decide (x.1 = k)).map (·.2.2)
theorem atV_at : ∀ {es : List (Kd × Addr × V)} {ys : List (Kd × Addr × Value)} {k : Kd}, Paired EntP es ys → RelO (atV es k) ((atKey ys k).map (·.2))
  | _, _, _, .nil => True.intro
  | e :: es, y :: ys, k, .cons q r => by
    by_cases h : e.1 = k
    · have h' : y.1 = k := q.1 ▸ h
      simp only [atV, atKey, List.find?_cons, h, h', decide_true, Option.map_some]
      exact q.2.2
    · have h' : ¬ y.1 = k := fun z => h (q.1.trans z)
      have ih := atV_at (k := k) r
      simp only [atV, atKey, List.find?_cons, h, h', decide_false] at ih ⊢
      exact ih
theorem assoc_at : ∀ {kvs : List (D × D)} {es : List (Kd × Addr × V)} {x : D} {k : Kd}, RepK Γ G α kvs es → normK x = some k → match assoc kvs x with | some d => ∃ v, atV es k = some v ∧ Rep Γ G α d v | none => atV es k = none
  | [], es, x, k, h, _ => by
    simp only [RepK] at h; subst h
    simp [assoc, atV]
  | (k0, d) :: r, es, x, k, h, n => by
    simp only [RepK] at h
    obtain ⟨e, er, rfl, hp, hr⟩ := h
    simp only [RepP] at hp
    obtain ⟨⟨ko, nk⟩, rk, rd⟩ := hp
    have q := eq_norm k0 x e.1 k nk n
    rw [← NestedKey.decide_eq] at q
    simp only [assoc]
    by_cases z : e.1 = k
    · rw [decide_eq_true z] at q
      rw [if_pos q]
      exact ⟨e.2.2, by simp [atV, z], rd⟩
    · rw [decide_eq_false z] at q
      rw [if_neg (by rw [q]; exact Bool.false_ne_true)]
      have ih := assoc_at hr n
      have e2 : atV (e :: er) k = atV er k := by simp [atV, List.find?_cons, z]
      rw [e2]; exact ih
def putV (es : List (Kd × Addr × V)) (k : Kd) (a : Addr) (v : V) : List (Kd × Addr × V) :=
  if (atV es k).isSome then es.map fun x => if x.1 = k then (x.1, x.2.1, v) else x else es ++ [(k, a, v)]
theorem putV_pair {es : List (Kd × Addr × V)} {ys : List (Kd × Addr × Value)} {k : Kd} {a : Addr} {v : V} {u : Value} (p : Paired EntP es ys) (r : RelV v u) : Paired EntP (putV es k a v) (storedH ys k a u) := by
  have q := atV_at (k := k) p
  have e : (atV es k).isSome = (atKey ys k).isSome := by
    cases h1 : atV es k with
    | none =>
      rw [h1] at q
      cases h2 : atKey ys k with
      | none => rfl
      | some z => rw [h2] at q; exact (show False from q).elim
    | some z =>
      rw [h1] at q
      cases h2 : atKey ys k with
      | none => rw [h2] at q; exact (show False from q).elim
      | some z => rfl
  unfold putV storedH
  rw [e]
  by_cases h : (atKey ys k).isSome = true
  · rw [if_pos h, if_pos h]
    clear q e h
    induction p with
    | nil => exact .nil
    | @cons e y _ _ q _ ih =>
      refine .cons ?_ ih
      show EntP (if e.1 = k then (e.1, e.2.1, v) else e) (putAt k u y)
      by_cases z : e.1 = k
      · rw [if_pos z]
        refine ⟨?_, ?_, ?_⟩ <;> simp only [putAt] <;> rw [if_pos (q.1 ▸ z)]
        · exact q.1
        · exact q.2.1
        · exact r
      · rw [if_neg z]
        refine ⟨?_, ?_, ?_⟩ <;> simp only [putAt] <;> rw [if_neg (q.1 ▸ z)]
        · exact q.1
        · exact q.2.1
        · exact q.2.2
  · rw [if_neg h, if_neg h]
    clear q e h
    induction p with
    | nil => exact .cons ⟨rfl, rfl, r⟩ .nil
    | cons q _ ih => exact .cons q ih
theorem RepK.at {kvs : List (D × D)} {es : List (Kd × Addr × V)} {x : D} {k : Kd} (h : RepK Γ G α kvs es) (n : normK x = some k) : (assoc kvs x).isSome = (atV es k).isSome := by
  have q := assoc_at h n
  cases e : assoc kvs x with
  | none => rw [e] at q; rw [q]; rfl
  | some d => rw [e] at q; obtain ⟨v, q, _⟩ := q; rw [q]; rfl
theorem dput_old : ∀ {kvs : List (D × D)} {es : List (Kd × Addr × V)} {x y : D} {k : Kd} {v : V}, RepK Γ G α kvs es → (es.map (·.1)).Nodup → normK x = some k → Rep Γ G α y v → (atV es k).isSome = true →
    RepK Γ G α (dput kvs x y) (es.map fun e => if e.1 = k then (e.1, e.2.1, v) else e)
  | [], es, x, y, k, v, h, _, _, _, s => by
    simp only [RepK] at h; subst h
    simp [atV] at s
  | (k0, d) :: r, es, x, y, k, v, h, nd, n, ry, s => by
    simp only [RepK] at h
    obtain ⟨e, er, rfl, hp, hr⟩ := h
    have hp' := hp
    simp only [RepP] at hp
    obtain ⟨⟨ko, nk⟩, rk, rd⟩ := hp
    have q := eq_norm k0 x e.1 k nk n
    rw [← NestedKey.decide_eq] at q
    rw [List.map_cons, List.nodup_cons] at nd
    simp only [dput]
    by_cases z : e.1 = k
    · rw [decide_eq_true z] at q
      rw [if_pos q, List.map_cons, if_pos z]
      have e2 : (er.map fun e => if e.1 = k then (e.1, e.2.1, v) else e) = er := by
        have : ∀ l : List (Kd × Addr × V), k ∉ l.map (·.1) → (l.map fun e => if e.1 = k then (e.1, e.2.1, v) else e) = l := by
          intro l
          induction l with
          | nil => intro _; rfl
          | cons a l ih =>
            intro hn
            rw [List.map_cons, List.mem_cons, not_or] at hn
            rw [List.map_cons, if_neg (fun z => hn.1 z.symm), ih hn.2]
        exact this er (z ▸ nd.1)
      rw [e2]
      simp only [RepK, RepP]
      exact ⟨_, er, rfl, ⟨⟨ko, nk⟩, rk, ry⟩, hr⟩
    · rw [decide_eq_false z] at q
      rw [if_neg (by rw [q]; exact Bool.false_ne_true), List.map_cons, if_neg z]
      simp only [RepK]
      refine ⟨e, _, rfl, hp', dput_old hr nd.2 n ry ?_⟩
      have e2 : atV (e :: er) k = atV er k := by simp [atV, List.find?_cons, z]
      rw [e2] at s; exact s
theorem dput_new : ∀ {kvs : List (D × D)} {es : List (Kd × Addr × V)} {x y : D} {k : Kd} {v : V} {a : Addr}, RepK Γ G α kvs es → keyOk x = true → normK x = some k → Rep Γ G α x (.ref a) → Rep Γ G α y v → atV es k = none →
    RepK Γ G α (dput kvs x y) (es ++ [(k, a, v)])
  | [], es, x, y, k, v, a, h, ko, n, rx, ry, s => by
    simp only [RepK] at h; subst h
    simp only [dput, RepK, RepP, List.nil_append]
    exact ⟨_, [], rfl, ⟨⟨ko, n⟩, rx, ry⟩, rfl⟩
  | (k0, d) :: r, es, x, y, k, v, a, h, ko, n, rx, ry, s => by
    simp only [RepK] at h
    obtain ⟨e, er, rfl, hp, hr⟩ := h
    have hp' := hp
    simp only [RepP] at hp
    obtain ⟨⟨ko', nk⟩, rk, rd⟩ := hp
    have q := eq_norm k0 x e.1 k nk n
    rw [← NestedKey.decide_eq] at q
    simp only [dput]
    by_cases z : e.1 = k
    · simp [atV, z] at s
    · rw [decide_eq_false z] at q
      rw [if_neg (by rw [q]; exact Bool.false_ne_true), List.cons_append]
      simp only [RepK]
      refine ⟨e, _, rfl, hp', dput_new hr ko n rx ry ?_⟩
      have e2 : atV (e :: er) k = atV er k := by simp [atV, List.find?_cons, z]
      rw [e2] at s; exact s
theorem dput_rep {kvs : List (D × D)} {es : List (Kd × Addr × V)} {x y : D} {k : Kd} {v : V} {a : Addr} (h : RepK Γ G α kvs es) (nd : (es.map (·.1)).Nodup) (ko : keyOk x = true) (n : normK x = some k) (rx : Rep Γ G α x (.ref a)) (ry : Rep Γ G α y v) :
    RepK Γ G α (dput kvs x y) (putV es k a v) := by
  unfold putV
  cases e : atV es k with
  | none => rw [if_neg (by simp)]; exact dput_new h ko n rx ry e
  | some w => rw [if_pos (by simp)]; exact dput_old h nd n ry (by rw [e]; rfl)
theorem putV_keys {es : List (Kd × Addr × V)} {k : Kd} {a : Addr} {v : V} (nd : (es.map (·.1)).Nodup) : ((putV es k a v).map (·.1)).Nodup := by
  unfold putV
  cases e : atV es k with
  | none =>
    rw [if_neg (by simp), List.map_append]
    refine List.nodup_append.mpr ⟨nd, by simp, fun x hx y hy => ?_⟩
    have hy' : y = k := by simpa using hy
    subst hy'
    intro z
    subst z
    obtain ⟨w, hw, ew⟩ := List.mem_map.mp hx
    have : (es.find? fun x_1 => decide (x_1.1 = x)).isSome = true := by
      rw [List.find?_isSome]
      exact ⟨w, hw, decide_eq_true ew⟩
    simp only [atV, Option.map_eq_none_iff] at e
    rw [e] at this; cases this
  | some w =>
    rw [if_pos (by simp), List.map_map]
    have : ((fun x : Kd × Addr × V => x.1) ∘ fun x => if x.1 = k then (x.1, x.2.1, v) else x) = fun x => x.1 := by
      funext x
      show (if x.1 = k then (x.1, x.2.1, v) else x).1 = x.1
      by_cases h : x.1 = k
      · rw [if_pos h]
      · rw [if_neg h]
    rw [this]; exact nd
theorem putV_len {es : List (Kd × Addr × V)} {k : Kd} {a : Addr} {v : V} : (putV es k a v).length ≤ es.length + 1 := by
  unfold putV
  split
  · rw [List.length_map]; omega
  · rw [List.length_append]; exact Nat.le_refl _
theorem RepK.length : ∀ {kvs : List (D × D)} {es : List (Kd × Addr × V)}, RepK Γ G α kvs es → kvs.length = es.length
  | [], es, h => by simp only [RepK] at h; subst h; rfl
  | p :: r, es, h => by
    simp only [RepK] at h
    obtain ⟨e, er, rfl, _, hr⟩ := h
    simp [hr.length]
end
end MW
namespace MW
open PySem PySem.Spec PyProof.Rows L2
def Co.op : Co → CmpOp
  | .eq => .Eq | .ne => .NotEq | .ord o => o.op | .isin => .In | .notin => .NotIn | .is => .Is | .isnot => .IsNot
def InsCmp (X : Cx) (Γ : GX) (c : CL) (W : WX) : Prop :=
  ∀ {A B : Type} {R : Hp → Hp → List Addr → A → B → Prop} {kk : Vl → M A} {Q : B → Hp → Prop} {σ : L2.St} {G H H0 : Hp} {α : List Addr} {μ : Mu} {pins : List (Addr × Obj)} {s : Shared} {o : Co} {a b : D} {x y : V} {v u : Value} {cc : Nat} {fs : List D},
    (o = .eq ∨ o = .ne) → content a μ = .ins cc fs → Inv X pins σ H s → Sim Γ G H α μ → Keep H0 H → DatR Γ G H α a x → DatR Γ G H α b y → RelV x v → RelV y u → Wn Γ W σ G H α R (bnd (cmpE c o a b) kk μ) Q →
    wpAny (model X.prog X.w) X.A (compareOp o.op v u) (fun z s' => ∃ t G1 H1 α1 μ1, z = .bool t ∧ Inv X pins σ H1 s' ∧ Keep H0 H1 ∧ Gr G H α G1 H1 α1 ∧ Sim Γ G1 H1 α1 μ1 ∧ Wn Γ W σ G1 H1 α1 R (kk (.dat (.bl t)) μ1) Q) X.xe s
structure Fit (X : Cx) (Γ : GX) (c : CL) (W : WX) : Prop where
  P : Γ.P = X.prog
  w : Γ.w = X.w
  K : Γ.K = X.K
  hu : X.A.units + 100 < cLine
  flds : c.flds = Γ.flds
  ins : InsCmp X Γ c W
def CB (X : Cx) (pins : List (Addr × Obj)) (σ : L2.St) (Q : VK) (z : Value) (s' : Shared) : Prop := ∃ k H', z = .bool k ∧ Inv X pins σ H' s' ∧ Q (V.bl k) H'
section
variable {X : Cx} {Γ : GX} {c : CL} {W : WX} {σ : L2.St} {ρ : List Sl} {G H G1 H1 H0 : Hp} {α α1 : List Addr} {μ μ1 : Mu} {pins : List (Addr × Obj)} {s : Shared} {Q : VK}
theorem CB.op {f : Value → Value → Sem Value} {r : R2} (h : OpR X f r) (I : Inv X pins σ H s) {x y : V} {v u : Value} (rx : RelV x v) (ry : RelV y u) (q : r x y H fun z H' => (∃ k, z = .bl k) ∧ Q z H') :
    wpAny (model X.prog X.w) X.A (f v u) (CB X pins σ Q) X.xe s := by
  refine thn (h pins s σ H x y v u _ I rx ry q) fun z s' ⟨w, H', I', rw', ⟨k, e⟩, q'⟩ => ?_
  subst e
  cases rw'
  exact ⟨k, H', rfl, I', q'⟩
theorem memD_any : ∀ (x : D) (ys : List D) (n m : Nat), plain n x = true → plains m ys = true → (toPys ys).any (fun z => PyData.eqv z (toPy x)) = memD x ys
  | x, [], n, m, _, _ => rfl
  | x, y :: ys, n, 0, _, h => by simp [plains] at h
  | x, y :: ys, n, m + 1, h1, h2 => by
    simp only [plains, Bool.and_eq_true] at h2
    simp only [toPys, List.any_cons, memD]
    rw [eq_py m n y x h2.1 h1, memD_any x ys n (m + 1) h1 h2.2]
theorem plain64_lst {ys : List D} (h : plain64 (.lst ys) = true) : plains 60 ys = true := by
  simp only [plain64, plain] at h; exact h
theorem plain64_tup {ys : List D} (h : plain64 (.tup ys) = true) : plains 60 ys = true := by
  simp only [plain64, plain] at h; exact h
def isN (a : D) : Bool := match a with | .non => true | _ => false
theorem RdR.isN {a : D} {x : V} (h : RdR Γ G H α a x) : decide (x = .non) = MW.isN a := by
  cases a with
  | non => have e := h.non; subst e; rfl
  | bl b => have e := h.bl; subst e; rfl
  | int b => have e := h.int; subst e; rfl
  | str b => have e := h.str; subst e; rfl
  | _ =>
    rcases h with h | ⟨p, e, _⟩
    · simp only [Rep] at h
      first
        | (obtain ⟨_, _, _, e, _⟩ := h; subst e; rfl)
        | (obtain ⟨_, _, e, _⟩ := h; subst e; rfl)
        | (obtain ⟨_, e, _⟩ := h; subst e; rfl)
        | (obtain ⟨_, _, e⟩ := h; subst e; rfl)
    · subst e; rfl
theorem dct_at (sm : Sim Γ G H α μ) {kvs : List (D × D)} {x : V} (h : RdR Γ G H α (.dct kvs) x) : ∃ a es, x = .ref a ∧ Rd H a (dicHO Γ.P Γ.w a es) ∧ RepK Γ G α kvs es := by
  rcases h with h | ⟨p, e, o⟩
  · simp only [Rep] at h
    obtain ⟨a, es, e, g, r⟩ := h
    exact ⟨a, es, e, Rd.up sm g, r⟩
  · obtain ⟨es, h1, h2⟩ := o
    exact ⟨p, es, e, .inl h1, h2⟩
theorem room8 (F : Fit X Γ c W) : (nestedKind X.prog X.w).room X.A.in1 := by
  have := F.hu
  show X.A.units + 1 + 8 < cLine
  omega
theorem assoc_key (I : Inv X pins σ H s) {kvs : List (D × D)} {es : List (Kd × Addr × V)} {ys : List (Kd × Addr × Value)} {d : D} {k : Kd} (r : RepK Γ G α kvs es) (p : Paired EntP es ys) (n : normK d = some k) : (atKey ys k).isSome = (assoc kvs d).isSome := by
  rw [r.at n]
  have q := atV_at (k := k) p
  cases h1 : atV es k with
  | none =>
    rw [h1] at q
    cases h2 : atKey ys k with
    | none => rfl
    | some z => rw [h2] at q; exact (show False from q).elim
  | some z =>
    rw [h1] at q
    cases h2 : atKey ys k with
    | none => rw [h2] at q; exact (show False from q).elim
    | some z => rfl
theorem cmp_ok (F : Fit X Γ c W) {o : Co} {a b : D} {x y : V} {v u : Value} {t : Bool} (I : Inv X pins σ H s) (sm : Sim Γ G H α μ) (hx : RdR Γ G H α a x) (hy : RdR Γ G H α b y) (rx : RelV x v) (ry : RelV y u) (e : cmpD o a b = some t) (q : Q (.bl t) H) :
    wpAny (model X.prog X.w) X.A (compareOp o.op v u) (CB X pins σ Q) X.xe s := by
  have hu := F.hu
  unfold cmpD at e
  split at e
  · split at e
    · rename_i hp
      cases e
      rw [Bool.and_eq_true] at hp
      refine CB.op (op_eqD (by omega)) I rx ry ⟨toPy a, toPy b, hx.dp sm hp.1, hy.dp sm hp.2, shaped_of hp.1, shaped_of hp.2, ⟨_, rfl⟩, ?_⟩
      rw [eq_py 60 60 a b hp.1 hp.2]; exact q
    · cases e
  · split at e
    · rename_i hp
      cases e
      rw [Bool.and_eq_true] at hp
      refine CB.op (op_neD (by omega)) I rx ry ⟨toPy a, toPy b, hx.dp sm hp.1, hy.dp sm hp.2, shaped_of hp.1, shaped_of hp.2, ⟨_, rfl⟩, ?_⟩
      rw [eq_py 60 60 a b hp.1 hp.2]; exact q
    · cases e
  · split at e
    · rename_i hp
      rw [Bool.and_eq_true] at hp
      rename_i o'
      have r := ord_at I sm o' 60 X.A a b x y v u t hp.1 hp.2 e (ordD_rep e hx) (ordD_rep2 e hy) rx ry (by omega)
      have r2 := r X.prog X.w X.xe (CB X pins σ Q) ⟨_, _, rfl, I, q⟩
      cases o' <;> exact r2
    · cases e
  · split at e
    · rename_i ys hp
      cases e
      rw [Bool.and_eq_true] at hp
      refine CB.op (op_inD (by omega)) I rx ry ⟨toPy a, toPys ys, hx.dp sm hp.1, hy.dp sm hp.2, shaped_of hp.1, shaped_of hp.2, ⟨_, rfl⟩, ?_⟩
      rw [memD_any a ys 60 60 hp.1 (plain64_lst hp.2)]; exact q
    · cases e
  · split at e
    · rename_i ys hp
      cases e
      rw [Bool.and_eq_true] at hp
      obtain ⟨as, r1⟩ := Dp.reads I (toPy a) x v (hx.dp sm hp.1) rx
      obtain ⟨bs, r2⟩ := Dp.reads I (toPy (.tup ys)) y u (hy.dp sm hp.2) ry
      refine SeqAt.in_tuple_reads r2 r1 (SeqAt.canLay_of_shaped (shaped_of hp.2)) (SeqAt.canLay_of_shaped (shaped_of hp.1)) (room_in_shaped (shaped_of hp.1) (by omega)) ⟨_, _, rfl, I, ?_⟩
      rw [memD_any a ys 60 60 hp.1 (plain64_tup hp.2)]; exact q
    · cases e
  · split at e
    · rename_i kvs hp
      cases e
      obtain ⟨k, p, nk, rfl, rfl, is, _⟩ := key_at I sm hp hx rx
      obtain ⟨d, es, rfl, rd, rk⟩ := dct_at sm hy
      cases ry
      obtain ⟨hd, _, ys, pr, dd⟩ := dict_of I sm ⟨F.P, F.w⟩ rd rk
      refine wpAny_in_heap (room8 F) is hd dd ⟨_, _, rfl, I.tok _, ?_⟩
      rw [assoc_key I rk pr nk]; exact q
    · cases e
  · split at e
    · rename_i ys hp
      cases e
      rw [Bool.and_eq_true] at hp
      refine CB.op (op_notInD (by omega)) I rx ry ⟨toPy a, toPys ys, hx.dp sm hp.1, hy.dp sm hp.2, shaped_of hp.1, shaped_of hp.2, ⟨_, rfl⟩, ?_⟩
      rw [memD_any a ys 60 60 hp.1 (plain64_lst hp.2)]; exact q
    · cases e
  · split at e
    · rename_i ys hp
      cases e
      rw [Bool.and_eq_true] at hp
      obtain ⟨as, r1⟩ := Dp.reads I (toPy a) x v (hx.dp sm hp.1) rx
      obtain ⟨bs, r2⟩ := Dp.reads I (toPy (.tup ys)) y u (hy.dp sm hp.2) ry
      refine SeqAt.notIn_tuple_reads r2 r1 (SeqAt.canLay_of_shaped (shaped_of hp.2)) (SeqAt.canLay_of_shaped (shaped_of hp.1)) (room_in_shaped (shaped_of hp.1) (by omega)) ⟨_, _, rfl, I, ?_⟩
      rw [memD_any a ys 60 60 hp.1 (plain64_tup hp.2)]; exact q
    · cases e
  · split at e
    · rename_i kvs hp
      cases e
      obtain ⟨k, p, nk, rfl, rfl, is, _⟩ := key_at I sm hp hx rx
      obtain ⟨d, es, rfl, rd, rk⟩ := dct_at sm hy
      cases ry
      obtain ⟨hd, _, ys, pr, dd⟩ := dict_of I sm ⟨F.P, F.w⟩ rd rk
      refine wpAny_notIn_heap (room8 F) is hd dd ⟨_, _, rfl, I.tok _, ?_⟩
      rw [assoc_key I rk pr nk]; exact q
    · cases e
  · cases e
    refine CB.op op_isN I rx ry ⟨hy.non, ⟨_, rfl⟩, ?_⟩
    rw [hx.isN]
    cases a <;> exact q
  · cases e
    refine CB.op op_notN I rx ry ⟨hy.non, ⟨_, rfl⟩, ?_⟩
    rw [hx.isN]
    cases a <;> exact q
  · rename_i a' b'
    cases e
    refine CB.op op_is_bl I rx ry ⟨_, _, hx.bl, hy.bl, ⟨_, rfl⟩, ?_⟩
    have e2 : decide (a' = b') = (a' == b') := by cases a' <;> cases b' <;> rfl
    rw [e2]; exact q
  · rename_i a' b'
    cases e
    refine CB.op op_isnot_bl I rx ry ⟨_, _, hx.bl, hy.bl, ⟨_, rfl⟩, ?_⟩
    have e2 : decide (a' = b') = (a' == b') := by cases a' <;> cases b' <;> rfl
    rw [e2]; exact q
  · cases e
end
end MW
namespace MW
open PySem PySem.Spec PyProof.Rows L2
section
variable {X : Cx} {Γ : GX} {c : CL} {W : WX} {σ : L2.St} {ρ : List Sl} {G H G1 H1 H0 : Hp} {α α1 : List Addr} {μ μ1 : Mu} {pins : List (Addr × Obj)} {s : Shared}
theorem cmpE_ok (F : Fit X Γ c W) {A B : Type} {R : Hp → Hp → List Addr → A → B → Prop} {kk : Vl → M A} {Q : B → Hp → Prop} {o : Co} {a b : D} {x y : V} {v u : Value}
    (I : Inv X pins σ H s) (sm : Sim Γ G H α μ) (k0 : Keep H0 H) (hx : DatR Γ G H α a x) (hy : DatR Γ G H α b y) (rx : RelV x v) (ry : RelV y u) (w : Wn Γ W σ G H α R (bnd (cmpE c o a b) kk μ) Q) :
    wpAny (model X.prog X.w) X.A (compareOp o.op v u) (fun z s' => ∃ t G1 H1 α1 μ1, z = .bool t ∧ Inv X pins σ H1 s' ∧ Keep H0 H1 ∧ Gr G H α G1 H1 α1 ∧ Sim Γ G1 H1 α1 μ1 ∧ Wn Γ W σ G1 H1 α1 R (kk (.dat (.bl t)) μ1) Q) X.xe s := by
  by_cases hi : (o = .eq ∨ o = .ne) ∧ ∃ cc fs, content a μ = .ins cc fs
  · obtain ⟨h1, cc, fs, h2⟩ := hi
    exact F.ins h1 h2 I sm k0 hx hy rx ry w
  · have e : cmpE c o a b μ = bnd (MW.opt (cmpD o (content a μ) (content b μ))) (fun t => MW.pur (.dat (.bl t))) μ := by
      show cmpX c o a b (content a μ) (content b μ) μ = _
      generalize content a μ = p at hi
      generalize content b μ = q
      unfold cmpX
      cases o <;> cases p <;> first | rfl | (exfalso; exact hi ⟨by simp, _, _, rfl⟩)
    unfold MW.bnd at w
    rw [e] at w
    cases q : cmpD o (content a μ) (content b μ) with
    | none => rw [q] at w; exact w.elim
    | some t =>
      rw [q] at w
      refine thn (cmp_ok F I sm (hx.look sm) (hy.look sm) rx ry q (Q := fun z H' => z = .bl t ∧ H' = H) ⟨rfl, rfl⟩) fun z s' ⟨k, H', e1, I', e2, e3⟩ => ?_
      subst e3
      cases e2
      exact ⟨t, G, _, α, μ, e1, I', k0, Gr.refl _ _ _, sm, w⟩
theorem Wn.base {r : Res Vl} {Q : VK} (k : Keep H0 H1) (h : Wn Γ W σ G H α (VlR Γ H0) r Q) : Wn Γ W σ G H α (VlR Γ H1) r Q := by
  cases r with
  | ok a m =>
    refine fun b G' H' α' g s r => h b G' H' α' g s ?_
    cases a with
    | dat d => exact r
    | frs d => obtain ⟨p, e, gp, np, o, h0, hd⟩ := r; exact ⟨p, e, gp, np, o, k.none h0, hd⟩
    | bor d => exact r
  | exc e d m => exact h
  | bad => exact h
theorem bnd_pur {A : Type} (x : M A) (m : Mu) : MW.bnd x (fun v => MW.pur v) m = x m := by
  unfold MW.bnd
  cases x m <;> rfl
theorem se_cmp (F : Fit X Γ c W) {o : Co} {a b : Expr} {ta tb : E} {pos : Pos} (h1 : SE X Γ c W a ta) (h2 : SE X Γ c W b tb) (hm : behindInMarks o.op b = false) : SE X Γ c W (.Compare a [o.op] [b] pos) (.cmp o ta tb) := by
  refine ⟨fun pins s σ H Q I ⟨G, α, ρ, μ, sm, en, w⟩ => ?_⟩
  refine wpAny_Compare1 (binT h1 h2 I (two (c := c) sm en w) fun v u s2 x y H2 I2 rx ry ⟨xa, ya, G2, α2, μ2, k2, g2, s2', en2, d1, d2, w2⟩ => ?_) hm
  rw [← bnd_pur (cmpE c o xa.d ya.d)] at w2
  exact thn (cmpE_ok F I2 s2' k2 d1 d2 rx ry w2) fun z s' ⟨t, G3, H3, α3, μ3, e, I3, k3, g3, s3, w3⟩ => ⟨.bl t, H3, I3, by subst e; rfl, w3.pur s3 (by simp only [VlR, Rep])⟩
def tT (Γ : GX) (c : CL) (W : WX) (t : E) : TT := fun σ H Q => ∃ G α ρ μ, Sim Γ G H α μ ∧ EnvR Γ G H α ρ σ ∧ Wn Γ W σ G H α EqR (evb c ρ t μ) Q
def ST (X : Cx) (Γ : GX) (c : CL) (W : WX) (e : Expr) (t : E) : Prop := PT X e (tT Γ c W t)
def SW (X : Cx) (Γ : GX) (c : CL) (W : WX) (e : Expr) (t : E) : Prop := PW X e (tT Γ c W t)
theorem tT_mono {t : E} {Q Q' : Bool → Hp → Prop} (h : tT Γ c W t σ H Q) (k : ∀ v H', Q v H' → Q' v H') : tT Γ c W t σ H Q' := let ⟨G, α, ρ, μ, s, en, w⟩ := h; ⟨G, α, ρ, μ, s, en, w.mono k⟩
theorem oneT {A B : Type} {R : Hp → Hp → List Addr → A → B → Prop} {t : E} {k : Bool → M A} {Q : B → Hp → Prop} (s : Sim Γ G H α μ) (en : EnvR Γ G H α ρ σ) (w : Wn Γ W σ G H α R (MW.bnd (evb c ρ t) k μ) Q) :
    tT Γ c W t σ H fun v H1 => ∃ G1 α1 μ1, Keep H H1 ∧ Gr G H α G1 H1 α1 ∧ Sim Γ G1 H1 α1 μ1 ∧ EnvR Γ G1 H1 α1 ρ σ ∧ Wn Γ W σ G1 H1 α1 R (k v μ1) Q := by
  refine ⟨G, α, ρ, μ, s, en, ?_⟩
  refine (w.bnd (RA := EqR) s).mono fun b H1 ⟨x, G2, α2, μ2, g2, s2, r2, w2⟩ => ?_
  cases (show x = b from r2)
  exact ⟨G2, α2, μ2, g2.there s s2, g2, s2, en.grow g2, w2⟩
theorem LINEs {n : Nat} (h : n ≤ LINE) : n ≤ sizeLine := by rw [← LINE_eq]; exact h
theorem emp (xs : List D) (vs : List V) (h : xs.length = vs.length) : (!xs.isEmpty) = !vs.isEmpty := by
  cases xs <;> cases vs <;> first | rfl | (simp at h)
theorem tru_rep (sm : Sim Γ G H α μ) {K : PySem.W.Frag} {p : D} {v : V} {t : Bool} (h : RdR Γ G H α p v) (e : truthD p = some t) : TruV K v H t := by
  cases p with
  | non => have q := h.non; subst q; cases e; rfl
  | bl b => have q := h.bl; subst q; cases e; rfl
  | int b => have q := h.int; subst q; cases e; rfl
  | str b =>
    have q := h.str; subst q
    by_cases hl : b.length ≤ LINE
    · have e2 : truthD (.str b) = some (b.length != 0) := by simp only [truthD, if_pos hl]
      rw [e2] at e
      cases e
      refine ⟨LINEs hl, ?_⟩
      cases b.length with
      | zero => rfl
      | succ n => rfl
    · have e2 : truthD (.str b) = none := by simp only [truthD, if_neg hl]
      rw [e2] at e
      cases e
  | tup xs =>
    obtain ⟨a, vs, rfl, h1, r⟩ := h.tup sm
    cases e
    exact .inr (.inl ⟨vs, SqT.of h1, emp _ _ r.length⟩)
  | lst xs =>
    obtain ⟨a, vs, rfl, h1, r⟩ := h.lst sm
    cases e
    exact .inl ⟨vs, SqL.of h1, emp _ _ r.length⟩
  | _ => cases e
theorem st_of {e : Expr} {t : E} (h : SE X Γ c W e t) (he : ∀ whole, isTrue e X.env whole = (do let v ← whole; standAt e.pos; holding [v] (truthy v))) : ST X Γ c W e t := by
  refine ⟨fun pins s σ H Q I ⟨G, α, ρ, μ, sm, en, w⟩ => ?_⟩
  refine (pt_truth h he).run pins s σ H Q I (tE_mono0 (one (c := c) sm en w) fun v H1 ⟨x, G2, α2, μ2, k2, g2, s2, en2, r2, w2⟩ => ?_)
  have w2' : Wn Γ W σ G2 H1 α2 EqR (MW.opt (truthD (content x.d μ2)) μ2) Q := w2
  obtain ⟨t, e, w3⟩ := w2'.opt0
  exact ⟨t, tru_rep s2 (r2.datR.look s2) e, w3.pur s2 rfl⟩
theorem st_cmp (F : Fit X Γ c W) {o : Co} {a b : Expr} {ta tb : E} {pos : Pos} (h1 : SE X Γ c W a ta) (h2 : SE X Γ c W b tb) (hm : behindInMarks o.op b = false) : ST X Γ c W (.Compare a [o.op] [b] pos) (.cmp o ta tb) := by
  refine ⟨fun pins s σ H Q I ⟨G, α, ρ, μ, sm, en, w⟩ => ?_⟩
  have w' : Wn Γ W σ G H α EqR (MW.bnd (ev c ρ ta) (fun x => MW.bnd (ev c ρ tb) fun y => MW.bnd (cmpE c o x.d y.d) fun z => look z.d fun p => MW.opt (truthD p)) μ) Q := by
    have e : MW.bnd (ev c ρ ta) (fun x => MW.bnd (ev c ρ tb) fun y => MW.bnd (cmpE c o x.d y.d) fun z => look z.d fun p => MW.opt (truthD p)) μ = evb c ρ (.cmp o ta tb) μ := by
      simp only [evb, ev, MW.bnd]
      cases ev c ρ ta μ with
      | ok x m1 =>
        simp only []
        cases ev c ρ tb m1 <;> rfl
      | exc _ _ _ => rfl
      | bad => rfl
    rw [e]; exact w
  refine wpAny_isTrue_Compare1 (binT h1 h2 I (two (c := c) sm en w') fun v u s2 x y H2 I2 rx ry ⟨xa, ya, G2, α2, μ2, k2, g2, s2', en2, d1, d2, w2⟩ => ?_) hm
  refine thn (cmpE_ok F I2 s2' k2 d1 d2 rx ry w2) fun z s' ⟨t, G3, H3, α3, μ3, e, I3, k3, g3, s3, w3⟩ => ?_
  subst e
  exact wpAny_truthy_bool ⟨H3, I3, w3.pur s3 rfl⟩
theorem chn_eq (c : CL) (ρ : List Sl) (o p : Co) (a b d : E) (m : Mu) {A : Type} (k : Vl → M A) : MW.bnd (ev c ρ (.chn o p a b d)) k m =
    MW.bnd (ev c ρ a) (fun x => MW.bnd (ev c ρ b) fun y => MW.bnd (cmpE c o x.d y.d) fun z => MW.bnd (match z with
    | .dat (.bl true) => MW.bnd (ev c ρ d) fun w => cmpE c p y.d w.d
    | .dat (.bl false) => MW.pur (.dat (.bl false))
    | _ => MW.bad) k) m := by
  simp only [ev, MW.bnd]
  cases ev c ρ a m with
  | ok x m1 =>
    simp only []
    cases ev c ρ b m1 with
    | ok y m2 =>
      simp only []
      cases cmpE c o x.d y.d m2 <;> rfl
    | exc _ _ _ => rfl
    | bad => rfl
  | exc _ _ _ => rfl
  | bad => rfl
theorem bnd_bnd {A B C : Type} (x : M A) (f : A → M B) (g : B → M C) (m : Mu) : MW.bnd (MW.bnd x f) g m = MW.bnd x (fun a => MW.bnd (f a) g) m := by
  simp only [MW.bnd]
  cases x m <;> rfl
theorem se_chn (F : Fit X Γ c W) {o p : Co} {a b d : Expr} {ta tb td : E} {pos : Pos} (h1 : SE X Γ c W a ta) (h2 : SE X Γ c W b tb) (h3 : SE X Γ c W d td) (hm : lastMarks [o.op, p.op] [b, d] = false) : SE X Γ c W (.Compare a [o.op, p.op] [b, d] pos) (.chn o p ta tb td) := by
  refine ⟨fun pins s σ H Q I ⟨G, α, ρ, μ, sm, en, w⟩ => ?_⟩
  rw [← bnd_pur (ev c ρ _), chn_eq] at w
  refine Compare_chain (thn (h1.run pins s σ H _ I (one (c := c) sm en w)) fun v s1 ⟨x, H1, I1, r1, xa, G1, α1, μ1, k1, g1, sm1, en1, d1, w1⟩ => chain_link (thn (h2.run pins s1 σ H1 _ I1 (one (c := c) sm1 en1 w1)) fun u s2 ⟨y, H2, I2, r2, ya, G2, α2, μ2, k2, g2, sm2, en2, d2, w2⟩ =>
    thn (cmpE_ok F I2 sm2 (k1.trans k2) (d1.datR.grow g2) d2.datR r1 r2 w2) fun z s3 ⟨t, G3, H3, α3, μ3, e, I3, k3, g3, sm3, w3⟩ => ?_)) hm
  subst e
  refine wpAny_truthy_bool ?_
  cases t with
  | false => exact ite_ff ⟨.bl false, H3, I3, rfl, w3.pur sm3 (by simp only [VlR, Rep])⟩
  | true =>
    simp only [] at w3
    rw [bnd_bnd] at w3
    exact ite_tt (chain_last (thn (h3.run pins s3 σ H3 _ I3 (one (c := c) sm3 (en2.grow g3) w3)) fun w' s4 ⟨z', H4, I4, r4, wa, G4, α4, μ4, k4, g4, sm4, en4, d4, w4⟩ =>
      thn (cmpE_ok F I4 sm4 (k3.trans k4) ((d2.datR.grow g3).grow g4) d4.datR r2 r4 w4) fun z s5 ⟨t, G5, H5, α5, μ5, e, I5, k5, g5, sm5, w5⟩ => ⟨.bl t, H5, I5, by subst e; rfl, w5.pur sm5 (by simp only [VlR, Rep])⟩))
theorem st_chn (F : Fit X Γ c W) {o p : Co} {a b d : Expr} {ta tb td : E} {pos : Pos} (h1 : SE X Γ c W a ta) (h2 : SE X Γ c W b tb) (h3 : SE X Γ c W d td) (hm : lastMarks [o.op, p.op] [b, d] = false) : ST X Γ c W (.Compare a [o.op, p.op] [b, d] pos) (.chn o p ta tb td) := by
  refine ⟨fun pins s σ H Q I ⟨G, α, ρ, μ, sm, en, w⟩ => ?_⟩
  unfold evb at w
  rw [chn_eq] at w
  refine isTrue_chain (thn (h1.run pins s σ H _ I (one (c := c) sm en w)) fun v s1 ⟨x, H1, I1, r1, xa, G1, α1, μ1, k1, g1, sm1, en1, d1, w1⟩ => test_link (thn (h2.run pins s1 σ H1 _ I1 (one (c := c) sm1 en1 w1)) fun u s2 ⟨y, H2, I2, r2, ya, G2, α2, μ2, k2, g2, sm2, en2, d2, w2⟩ =>
    thn (cmpE_ok F I2 sm2 (k1.trans k2) (d1.datR.grow g2) d2.datR r1 r2 w2) fun z s3 ⟨t, G3, H3, α3, μ3, e, I3, k3, g3, sm3, w3⟩ => ?_)) hm
  subst e
  refine wpAny_truthy_bool ?_
  cases t with
  | false => exact ite_ff ⟨H3, I3, w3.pur sm3 rfl⟩
  | true =>
    simp only [] at w3
    rw [bnd_bnd] at w3
    exact ite_tt (test_last (thn (h3.run pins s3 σ H3 _ I3 (one (c := c) sm3 (en2.grow g3) w3)) fun w' s4 ⟨z', H4, I4, r4, wa, G4, α4, μ4, k4, g4, sm4, en4, d4, w4⟩ =>
      thn (cmpE_ok F I4 sm4 (k3.trans k4) ((d2.datR.grow g3).grow g4) d4.datR r2 r4 w4) fun z s5 ⟨t, G5, H5, α5, μ5, e, I5, k5, g5, sm5, w5⟩ => by
        subst e
        exact wpAny_truthy_bool ⟨H5, I5, w5.pur sm5 rfl⟩))
theorem se_and1 {a : Expr} {ta : E} {pos : Pos} (h : SE X Γ c W a ta) : SE X Γ c W (.BoolOp .And [a] pos) ta := pe_one h
theorem se_and {a b : Expr} {rest : List Expr} {ta tb : E} {pos : Pos} (h1 : SE X Γ c W a ta) (h2 : SE X Γ c W (.BoolOp .And (b :: rest) pos) tb) : SE X Γ c W (.BoolOp .And (a :: b :: rest) pos) (.and ta tb) := by
  refine imp (pe_andT h1 h2) fun σ H Q ⟨G, α, ρ, μ, sm, en, w⟩ => tE_mono0 (one (c := c) (k := fun x => look x.d fun p => MW.bnd (MW.opt (truthD p)) fun t => if t then ev c ρ tb else MW.pur x) sm en w) fun v H1 ⟨x, G2, α2, μ2, k2, g2, s2, en2, r2, w2⟩ => ?_
  obtain ⟨t, e, w3⟩ := w2.opt
  refine ⟨t, tru_rep s2 (r2.datR.look s2) e, ?_⟩
  cases t with
  | true => exact ⟨G2, α2, ρ, μ2, s2, en2, w3.base k2⟩
  | false => exact w3.pur s2 r2
theorem se_or {a b : Expr} {rest : List Expr} {ta tb : E} {pos : Pos} (h1 : SE X Γ c W a ta) (h2 : SE X Γ c W (.BoolOp .Or (b :: rest) pos) tb) : SE X Γ c W (.BoolOp .Or (a :: b :: rest) pos) (.or ta tb) := by
  refine imp (pe_orT h1 h2) fun σ H Q ⟨G, α, ρ, μ, sm, en, w⟩ => tE_mono0 (one (c := c) (k := fun x => look x.d fun p => MW.bnd (MW.opt (truthD p)) fun t => if t then MW.pur x else ev c ρ tb) sm en w) fun v H1 ⟨x, G2, α2, μ2, k2, g2, s2, en2, r2, w2⟩ => ?_
  obtain ⟨t, e, w3⟩ := w2.opt
  refine ⟨t, tru_rep s2 (r2.datR.look s2) e, ?_⟩
  cases t with
  | true => exact w3.pur s2 r2
  | false => exact ⟨G2, α2, ρ, μ2, s2, en2, w3.base k2⟩
theorem se_or1 {a : Expr} {ta : E} {pos : Pos} (h : SE X Γ c W a ta) : SE X Γ c W (.BoolOp .Or [a] pos) ta := pe_one h
theorem se_not {a : Expr} {ta : E} {pos : Pos} (h1 : SE X Γ c W a ta) : SE X Γ c W (.UnaryOp .Not a pos) (.not ta) := by
  refine imp (pe_notT h1) fun σ H Q ⟨G, α, ρ, μ, sm, en, w⟩ => tE_mono0 (one (c := c) (k := fun x => look x.d fun p => MW.bnd (MW.opt (truthD p)) fun t => MW.pur (Vl.dat (.bl (!t)))) sm en w) fun v H1 ⟨x, G2, α2, μ2, k2, g2, s2, en2, r2, w2⟩ => ?_
  obtain ⟨t, e, w3⟩ := w2.opt
  exact ⟨t, tru_rep s2 (r2.datR.look s2) e, w3.pur s2 (by simp only [VlR, Rep])⟩
theorem evb_bnd {A : Type} (c : CL) (ρ : List Sl) (t : E) (k : Bool → M A) (m : Mu) : MW.bnd (evb c ρ t) k m = MW.bnd (ev c ρ t) (fun x => look x.d fun p => MW.bnd (MW.opt (truthD p)) k) m := by
  simp only [evb, MW.bnd]
  cases ev c ρ t m with
  | ok a m1 =>
    simp only [look]
    cases truthD (content a.d m1) <;> rfl
  | exc _ _ _ => rfl
  | bad => rfl
theorem se_ite {t a b : Expr} {tt ta tb : E} {pos : Pos} (h0 : ST X Γ c W t tt) (h1 : SE X Γ c W a ta) (h2 : SE X Γ c W b tb) : SE X Γ c W (.IfExp t a b pos) (.ite tt ta tb) := by
  refine imp (pe_ifExp h0 h1 h2) fun σ H Q ⟨G, α, ρ, μ, sm, en, w⟩ => ?_
  have w' : Wn Γ W σ G H α (VlR Γ H) (MW.bnd (evb c ρ tt) (fun t => if t then ev c ρ ta else ev c ρ tb) μ) Q := by
    rw [evb_bnd]; exact w
  refine tT_mono (oneT (c := c) sm en w') fun v H1 ⟨G2, α2, μ2, k2, g2, s2, en2, w2⟩ => ?_
  cases v with
  | true => exact ⟨G2, α2, ρ, μ2, s2, en2, Wn.base k2 w2⟩
  | false => exact ⟨G2, α2, ρ, μ2, s2, en2, Wn.base k2 w2⟩
theorem st_not {a : Expr} {ta : E} {pos : Pos} (h1 : ST X Γ c W a ta) : ST X Γ c W (.UnaryOp .Not a pos) (.not ta) := by
  refine ⟨fun pins s σ H Q I ⟨G, α, ρ, μ, sm, en, w⟩ => (pt_not h1).run pins s σ H Q I ?_⟩
  have e : evb c ρ (.not ta) μ = MW.bnd (evb c ρ ta) (fun t => MW.pur (!t)) μ := by
    rw [evb_bnd]
    simp only [evb, ev, MW.bnd]
    cases ev c ρ ta μ with
    | ok a m1 =>
      simp only [look]
      cases truthD (content a.d m1) <;> rfl
    | exc _ _ _ => rfl
    | bad => rfl
  rw [e] at w
  exact tT_mono (oneT (c := c) sm en w) fun v H1 ⟨G2, α2, μ2, k2, g2, s2, en2, w2⟩ => w2.pur s2 rfl
theorem sw_and1 {a : Expr} {ta : E} {pos : Pos} (h : ST X Γ c W a ta) : SW X Γ c W (.BoolOp .And [a] pos) ta := pw_and1 h
theorem sw_or1 {a : Expr} {ta : E} {pos : Pos} (h : ST X Γ c W a ta) : SW X Γ c W (.BoolOp .Or [a] pos) ta := pw_or1 h
theorem sw_and {a b : Expr} {rest : List Expr} {ta tb : E} {pos : Pos} (h1 : ST X Γ c W a ta) (h2 : SW X Γ c W (.BoolOp .And (b :: rest) pos) tb) : SW X Γ c W (.BoolOp .And (a :: b :: rest) pos) (.and ta tb) := by
  refine ⟨fun whole pins s σ H Q I ⟨G, α, ρ, μ, sm, en, w⟩ => (pw_and h1 h2).run whole pins s σ H Q I ?_⟩
  have e : evb c ρ (.and ta tb) μ = MW.bnd (evb c ρ ta) (fun t => if t then evb c ρ tb else MW.pur false) μ := by
    rw [evb_bnd]
    simp only [evb, ev, MW.bnd]
    cases ev c ρ ta μ with
    | ok a m1 =>
      simp only [look]
      cases h : truthD (content a.d m1) with
      | none => rfl
      | some t =>
        cases t with
        | true => rfl
        | false => show MW.opt (truthD (content a.d m1)) m1 = _; rw [h]; rfl
    | exc _ _ _ => rfl
    | bad => rfl
  rw [e] at w
  refine tT_mono (oneT (c := c) sm en w) fun v H1 ⟨G2, α2, μ2, k2, g2, s2, en2, w2⟩ => ?_
  cases v with
  | true => exact ⟨G2, α2, ρ, μ2, s2, en2, w2⟩
  | false => exact w2.pur s2 rfl
theorem sw_or {a b : Expr} {rest : List Expr} {ta tb : E} {pos : Pos} (h1 : ST X Γ c W a ta) (h2 : SW X Γ c W (.BoolOp .Or (b :: rest) pos) tb) : SW X Γ c W (.BoolOp .Or (a :: b :: rest) pos) (.or ta tb) := by
  refine ⟨fun whole pins s σ H Q I ⟨G, α, ρ, μ, sm, en, w⟩ => (pw_or h1 h2).run whole pins s σ H Q I ?_⟩
  have e : evb c ρ (.or ta tb) μ = MW.bnd (evb c ρ ta) (fun t => if t then MW.pur true else evb c ρ tb) μ := by
    rw [evb_bnd]
    simp only [evb, ev, MW.bnd]
    cases ev c ρ ta μ with
    | ok a m1 =>
      simp only [look]
      cases h : truthD (content a.d m1) with
      | none => rfl
      | some t =>
        cases t with
        | true => show MW.opt (truthD (content a.d m1)) m1 = _; rw [h]; rfl
        | false => rfl
    | exc _ _ _ => rfl
    | bad => rfl
  rw [e] at w
  refine tT_mono (oneT (c := c) sm en w) fun v H1 ⟨G2, α2, μ2, k2, g2, s2, en2, w2⟩ => ?_
  cases v with
  | false => exact ⟨G2, α2, ρ, μ2, s2, en2, w2⟩
  | true => exact w2.pur s2 rfl
end
end MW
namespace MW
open PySem PySem.Spec PyProof.Rows L2
section
variable {X : Cx} {Γ : GX} {c : CL} {W : WX} {σ : L2.St} {ρ : List Sl} {G H G1 H1 H0 : Hp} {α α1 : List Addr} {μ μ1 : Mu} {pins : List (Addr × Obj)} {s : Shared} {Q : VK}
def notSl : Expr → Bool
  | .Slice _ _ _ _ => false
  | _ => true
theorem plain_ix {b : Expr} (h : notSl b = true) : PlainIx b := by
  intro o i
  cases b <;> first | rfl | exact absurd (show false = true from h) Bool.false_ne_true
theorem seq_at (sm : Sim Γ G H α μ) (hK : Γ.K = X.K) {xs : List Int} {x : V} (h : RdR Γ G H α (.scr xs) x) : ∃ a, x = .ref a ∧ SqL X.K H a (xs.map V.int) := by
  rcases h with h | ⟨p, e, o⟩
  · simp only [Rep] at h
    obtain ⟨a, e, g⟩ := h
    refine ⟨a, e, ?_⟩
    rw [← hK]
    exact g.elim (fun g => .inl (Rd.up sm g)) .inr
  · exact o.elim
theorem at_get {xs : List D} {vs : List V} {i : Int} {d : D} (r : RepL Γ G α xs vs) (h : (place xs.length i).bind (fun j => xs[j]?) = some d) : ∃ v, atI vs i = some v ∧ Rep Γ G α d v := by
  obtain ⟨j, e1, e2⟩ := Option.bind_eq_some_iff.mp h
  obtain ⟨v, e3, e4⟩ := r.get e2
  refine ⟨v, ?_, e4⟩
  have e5 : ixN vs.length i = some j := by rw [← r.length]; exact e1
  unfold atI
  rw [e5]; exact e3
theorem idx_ok (F : Fit X Γ c W) {a b : D} {x y : V} {v u : Value} {d : D} {va vb : Expr} (I : Inv X pins σ H s) (sm : Sim Γ G H α μ) (hx : RdR Γ G H α a x) (hy : RdR Γ G H α b y) (rx : RelV x v) (ry : RelV y u)
    (hs : subscripted vb false v u = operate [v, u] (getItem v u)) (e : idxD a b = some d) (q : ∀ z, Rep Γ G α d z → Q z H) :
    wpAny (model X.prog X.w) X.A (subscriptTail va vb v u) (EP X pins σ Q) X.xe s := by
  unfold idxD at e
  split at e
  · obtain ⟨p, vs, rfl, h1, r⟩ := hx.lst sm
    have e2 := hy.int
    subst e2
    obtain ⟨z, e3, e4⟩ := at_get r e
    exact ix_list va vb pins s σ H _ _ v u Q I rx ry ⟨p, vs, _, z, rfl, rfl, SqL.of h1, e3, q z e4⟩ hs
  · obtain ⟨p, vs, rfl, h1, r⟩ := hx.tup sm
    have e2 := hy.int
    subst e2
    obtain ⟨z, e3, e4⟩ := at_get r e
    exact ix_tup va vb pins s σ H _ _ v u Q I rx ry ⟨p, vs, _, z, rfl, rfl, SqT.of h1, e3, q z e4⟩ hs
  · rename_i xs i
    obtain ⟨p, rfl, h1⟩ := seq_at sm F.K hx
    have e2 := hy.int
    subst e2
    obtain ⟨j, e3, e4⟩ := Option.bind_eq_some_iff.mp e
    obtain ⟨k, e5, e6⟩ := Option.map_eq_some_iff.mp e4
    subst e6
    refine ix_list va vb pins s σ H _ _ v u Q I rx ry ⟨p, _, _, .int k, rfl, rfl, h1, ?_, q _ (by simp only [Rep])⟩ hs
    have e7 : ixN (xs.map V.int).length i = some j := by rw [List.length_map]; exact e3
    unfold atI
    rw [e7]
    show (xs.map V.int)[j]? = _
    rw [List.getElem?_map, e5]; rfl
  · split at e
    · rename_i kvs k hp
      obtain ⟨kk, p, nk, rfl, rfl, is, _⟩ := key_at I sm hp hy ry
      obtain ⟨dd, es, rfl, rd, rk⟩ := dct_at sm hx
      cases rx
      obtain ⟨hd, _, ys, pr, dq⟩ := dict_of I sm ⟨F.P, F.w⟩ rd rk
      have as := assoc_at rk nk
      rw [e] at as
      obtain ⟨z, az, rz⟩ := as
      have ra := atV_at (k := kk) pr
      rw [az] at ra
      cases h2 : atKey ys kk with
      | none => rw [h2] at ra; exact (show False from ra).elim
      | some pp =>
        rw [h2] at ra
        exact tail_any dq.typeIs PySem.F.slot_dict_getitem.lookup (wpAny_getItem_heap (room8 F) is dq h2 ⟨z, H, I.tok _, ra, q z rz⟩) hs
    · cases e
  · cases e
theorem se_idx (F : Fit X Γ c W) {a b : Expr} {ta tb : E} {pos : Pos} (h1 : SE X Γ c W a ta) (h2 : SE X Γ c W b tb) (hn : notSl b = true) : SE X Γ c W (.Subscript a b pos) (.idx ta tb) := by
  refine ⟨fun pins s σ H Q I ⟨G, α, ρ, μ, sm, en, w⟩ => ?_⟩
  refine Subscript_ (binT h1 h2 I (two (c := c) sm en w) fun v u s2 x y H2 I2 rx ry ⟨xa, ya, G2, α2, μ2, k2, g2, s2', en2, d1, d2, w2⟩ => ?_)
  have w3 : Wn Γ W σ G2 H2 α2 (VlR Γ H) (MW.bnd (MW.opt (idxD (content xa.d μ2) ya.d)) (fun d => MW.pur (.dat d)) μ2) Q := w2
  obtain ⟨d, e, w4⟩ := w3.opt
  have ey : RdR Γ G2 H2 α2 ya.d y := by
    rcases d2 with h | ⟨p, e, _, _, o⟩
    · exact .inl h
    · exact .inr ⟨p, e, o⟩
  exact idx_ok F I2 s2' (d1.look s2') ey rx ry (plain_ix hn _ _) e fun z rz => w4.pur s2' rz
theorem cut_rep {xs : List D} {vs : List V} (r : RepL Γ G α xs vs) (lo hi : Option Int) : RepL Γ G α (cut xs lo hi) (cutV vs lo hi) := by
  have e : ∀ (n d : Nat) (o : Option Int), MW.sIx n d o = HT.sIx n d o := fun n d o => by cases o <;> rfl
  unfold cut cutV
  rw [← r.length, e, e]
  exact (r.drop _).take _
theorem dic_stay {P : Program} {w : World} {a : Addr} {xs : List (Kd × Addr × V)} {h1 h2 : Heap} (h : dicOk P w a xs h1) (k : ∀ o, h1.get? a = some o → h2.get? a = some o) : dicOk P w a xs h2 := by
  obtain ⟨a1, a2, a3, o, es, ep, ys, ho, r⟩ := h
  exact ⟨a1, a2, a3, o, es, ep, ys, k o ho, r⟩
theorem dic_new {P : Program} {w : World} {H' : Hp} {a : Addr} {xs : List (Kd × Addr × V)} {h : Heap} (d : dicOk P w a xs h) : ObjOk P w H' h a (dicHO P w a xs) := by
  refine ⟨d, ?_, fun h1 h2 e k => dic_stay e k⟩
  obtain ⟨_, _, _, o, _, _, _, ho, _⟩ := d
  exact ⟨o, ho⟩
theorem dic_of {P : Program} {w : World} {a : Addr} {es : List (Kd × Addr × V)} {ys : List (Kd × Addr × Value)} {h : Heap} (hd : (a == sysModules) = false) (hl : es.length ≤ sizeLine) (pr : Paired EntP es ys) (dd : h.DictOfH (nestedKind P w) a ys) : dicOk P w a es h := by
  obtain ⟨o, ents, ep, h1, h2, h3, h4, _, h5⟩ := dd
  exact ⟨hd, hl, by rw [← EntP.keys pr]; exact h5, o, ents, ep, ys, h1, h2, h3, pr, h4⟩
theorem dic_empty {P : Program} {w : World} (h : Heap) (hb : sysModules < h.objs.size) : dicOk P w h.objs.size [] (h.push { cls := .type "dict", data := .dict #[] }) :=
  dic_of (ys := []) (beq_eq_false_iff_ne.mpr (Ne.symm (Nat.ne_of_lt hb))) (Nat.zero_le _) .nil (Heap.DictOfH.new h)
theorem fresh_dct {kvs : List (D × D)} {es : List (Kd × Addr × V)} {p : Addr} {Q : VK} (sm : Sim Γ G H α μ) (r : RepK Γ G α kvs es) (k : Keep H0 H) (hp : H p = none) (w : Wn Γ W σ G H α (VlR Γ H0) (MW.pur (.frs (.dct kvs)) μ) Q) : Q (.ref p) (upd H p (dicHO Γ.P Γ.w p es)) := by
  obtain ⟨g3, s3⟩ := allocF (o := dicHO Γ.P Γ.w p es) sm hp
  refine w _ _ _ _ g3 s3 ?_
  obtain ⟨gp, np⟩ := sm.none hp
  exact ⟨p, rfl, gp, np, ⟨es, upd_same, RepK.mono g3.le g3.pre _ _ r⟩, k.none hp, fun _ _ z => by cases z⟩
theorem se_dnil (F : Fit X Γ c W) {pos : Pos} : SE X Γ c W (.Dict [] [] pos) .dnil := by
  refine ⟨fun pins s σ H Q I ⟨G, α, ρ, μ, sm, en, w⟩ => ?_⟩
  have hn := I.hok.fresh (Nat.le_refl s.heap.objs.size)
  have q := fresh_dct (kvs := []) (es := []) sm (by simp only [RepK]) (Keep.refl H) hn w
  rw [F.P, F.w] at q
  exact wpAny_Dict_empty ⟨.ref s.heap.objs.size, _, I.laid (a := s.heap.objs.size) (t' := s.toks) (fun _ _ z => Heap.get?_push_of_some _ z) (Nat.le_refl _) (dic_new (dic_empty s.heap I.big)), rfl, q⟩
theorem put_ok (F : Fit X Γ c W) {p : Addr} {kvs : List (D × D)} {k d : D} {x v : V} {u r : Value} {Q : Unit → Shared → Prop} {A : Around} (hA : A.units ≤ X.A.units + 1) (I : Inv X pins σ H s) (sm : Sim Γ G H α μ) (gp : G p = none) (np : p ∉ α) (ow : Own Γ G H α p (.dct kvs)) (hk : keyOk k = true) (rk : Rep Γ G α k x) (rd : Rep Γ G α d v) (rx : RelV x u) (rv : RelV v r) (hl : kvs.length < LINE)
    (h : ∀ s' es, Inv X pins σ (upd H p (dicHO Γ.P Γ.w p es)) s' → RepK Γ G α (dput kvs k d) es → Q () s') :
    wpAny (model X.prog X.w) A (setItem (.ref p) u r) Q X.xe s := by
  obtain ⟨es, e, rep⟩ := ow
  obtain ⟨kk, a, nk, rfl, rfl, is, rx'⟩ := key_at I sm hk (.inl rk) rx
  obtain ⟨hd, hz, ys, pr, dd⟩ := dict_of I sm ⟨F.P, F.w⟩ (.inl e) rep
  have nd : (es.map (·.1)).Nodup := by
    obtain ⟨_, _, _, _, _, _, _, _, h5⟩ := dd
    rw [← EntP.keys pr]; exact h5
  have el := rep.length
  have pl := Paired.length pr
  have le := LINE_eq
  have hu := F.hu
  refine wpAny_setItem_heap (hsz := by omega) (by show A.units + 1 + 8 < cLine; omega) is dd fun h' dd' hs => ?_
  have he : ∃ q, h'.get? p = some q := let ⟨q, _, _, hq, _⟩ := dd'; ⟨q, hq⟩
  have I2 := d_write (t' := s.toks + (nestedKind X.prog X.w).draws kk) I (by rw [e]; exact True.intro) hs he (dic_new (dic_of (es := putV es kk a v) hd ?_ (putV_pair pr rv) dd'))
  · exact h _ _ (by rw [F.P, F.w]; exact I2) (dput_rep rep nd hk nk rx' rd)
  have := putV_len (es := es) (k := kk) (a := a) (v := v)
  omega
theorem Gr.wr {p : Addr} {o : HO} (g : Gr G H α G1 H1 α1) (hp : H p = none) : Gr G H α G1 (upd H1 p o) α1 :=
  ⟨g.le, g.pre, fun a u e ga na => ⟨by rw [upd_ne (ne_none e hp)]; exact (g.fr a u e ga na).1, (g.fr a u e ga na).2⟩⟩
theorem Sim.wr {p : Addr} {o : HO} (s : Sim Γ G H α μ) (gp : G p = Option.none) (np : p ∉ α) : Sim Γ G (upd H p o) α μ := by
  refine ⟨fun a u e => ?_, s.len, s.nd, fun n q d e1 e2 => ?_⟩
  · rw [upd_ne (ne_none e gp)]; exact s.sub a u e
  · obtain ⟨g, ow⟩ := s.obj n q d e1 e2
    have nq : q ≠ p := fun z => by subst z; exact np (List.mem_of_getElem? e1)
    exact ⟨g, ow.mono (Le.refl _) (Pre.refl _) fun o2 h2 => by rw [upd_ne nq]; exact h2⟩
theorem Wn.step {A B C D' : Type} {RA : Hp → Hp → List Addr → A → B → Prop} {RC : Hp → Hp → List Addr → C → D' → Prop} {x : M A} {f : A → M C} {Q : D' → Hp → Prop} {Gb Hb : Hp} {αb : List Addr} (gb : Gr Gb Hb αb G H α) (kb : Keep Hb H) (s : Sim Γ G H α μ) (h : Wn Γ W σ Gb Hb αb RC (MW.bnd x f μ) Q) :
    Wn Γ W σ G H α RA (x μ) (fun b H1 => ∃ a G1 α1 μ1, Gr G H α G1 H1 α1 ∧ Gr Gb Hb αb G1 H1 α1 ∧ Keep Hb H1 ∧ Sim Γ G1 H1 α1 μ1 ∧ RA G1 H1 α1 a b ∧ Wn Γ W σ Gb Hb αb RC (f a μ1) Q) := by
  unfold MW.bnd at h
  cases e : x μ with
  | ok a m =>
    rw [e] at h
    exact fun b G1 H1 α1 g s1 r => ⟨a, G1, α1, m, g, gb.trans g, kb.trans (g.there s s1), s1, r, h⟩
  | exc ee d m =>
    rw [e] at h
    exact Wn.shift (R := RA) (r := Res.exc ee d m) gb kb (show Wn Γ W σ Gb Hb αb RA (Res.exc ee d m) _ from h)
  | bad =>
    rw [e] at h
    exact h
theorem oneB {A B : Type} {R : Hp → Hp → List Addr → A → B → Prop} {t : E} {k : Vl → M A} {Q : B → Hp → Prop} {Gb Hb : Hp} {αb : List Addr} (gb : Gr Gb Hb αb G H α) (kb : Keep Hb H) (s : Sim Γ G H α μ) (en : EnvR Γ G H α ρ σ) (w : Wn Γ W σ Gb Hb αb R (MW.bnd (ev c ρ t) k μ) Q) :
    tE Γ c W t σ H fun v H1 => ∃ x G1 α1 μ1, Gr G H α G1 H1 α1 ∧ Gr Gb Hb αb G1 H1 α1 ∧ Keep Hb H1 ∧ Sim Γ G1 H1 α1 μ1 ∧ EnvR Γ G1 H1 α1 ρ σ ∧ VlR Γ Hb G1 H1 α1 x v ∧ Wn Γ W σ Gb Hb αb R (k x μ1) Q := by
  refine ⟨G, α, ρ, μ, s, en, ?_⟩
  refine (w.step (RA := VlR Γ H) gb kb s).mono fun b H1 ⟨x, G1, α1, μ1, g, g2, k2, s1, r, w1⟩ => ⟨x, G1, α1, μ1, g, g2, k2, s1, en.grow g, ?_, w1⟩
  cases x with
  | dat d => exact r
  | frs d => obtain ⟨p, e, gp, np, o, h0, hd⟩ := r; exact ⟨p, e, gp, np, o, kb.none h0, hd⟩
  | bor d => exact r
theorem evF_bnd {A : Type} (c : CL) (ρ : List Sl) (t : E) (k : D → M A) (m : Mu) : MW.bnd (evF c ρ t) k m = MW.bnd (ev c ρ t) (fun v => MW.bnd (MW.opt v.fz) k) m := by
  unfold evF
  exact bnd_bnd _ _ _ _
theorem oneFB {A B : Type} {R : Hp → Hp → List Addr → A → B → Prop} {t : E} {k : D → M A} {Q : B → Hp → Prop} {Gb Hb : Hp} {αb : List Addr} (gb : Gr Gb Hb αb G H α) (kb : Keep Hb H) (s : Sim Γ G H α μ) (en : EnvR Γ G H α ρ σ) (w : Wn Γ W σ Gb Hb αb R (MW.bnd (ev c ρ t) (fun v => MW.bnd (MW.opt v.fz) k) μ) Q) :
    tF Γ c W t σ H fun v H1 => ∃ d G1 α1 μ1, Gr G H α G1 H1 α1 ∧ Gr Gb Hb αb G1 H1 α1 ∧ Keep Hb H1 ∧ Sim Γ G1 H1 α1 μ1 ∧ EnvR Γ G1 H1 α1 ρ σ ∧ Rep Γ G1 α1 d v ∧ Wn Γ W σ Gb Hb αb R (k d μ1) Q := by
  refine ⟨G, α, ρ, μ, s, en, ?_⟩
  rw [← evF_bnd] at w
  exact (w.step (RA := RepR Γ) gb kb s).mono fun b H1 ⟨x, G1, α1, μ1, g, g2, k2, s1, r, w1⟩ => ⟨x, G1, α1, μ1, g, g2, k2, s1, en.grow g, r, w1⟩
theorem oneTB {A B : Type} {R : Hp → Hp → List Addr → A → B → Prop} {t : E} {k : Bool → M A} {Q : B → Hp → Prop} {Gb Hb : Hp} {αb : List Addr} (gb : Gr Gb Hb αb G H α) (kb : Keep Hb H) (s : Sim Γ G H α μ) (en : EnvR Γ G H α ρ σ) (w : Wn Γ W σ Gb Hb αb R (MW.bnd (evb c ρ t) k μ) Q) :
    tT Γ c W t σ H fun v H1 => ∃ G1 α1 μ1, Gr G H α G1 H1 α1 ∧ Gr Gb Hb αb G1 H1 α1 ∧ Keep Hb H1 ∧ Sim Γ G1 H1 α1 μ1 ∧ EnvR Γ G1 H1 α1 ρ σ ∧ Wn Γ W σ Gb Hb αb R (k v μ1) Q := by
  refine ⟨G, α, ρ, μ, s, en, ?_⟩
  refine (w.step (RA := EqR) gb kb s).mono fun b H1 ⟨x, G1, α1, μ1, g, g2, k2, s1, r, w1⟩ => ?_
  cases (show x = b from r)
  exact ⟨G1, α1, μ1, g, g2, k2, s1, en.grow g, w1⟩
theorem manyB {A B : Type} {R : Hp → Hp → List Addr → A → B → Prop} {ts : Es} {k : List D → M A} {Q : B → Hp → Prop} {Gb Hb : Hp} {αb : List Addr} (gb : Gr Gb Hb αb G H α) (kb : Keep Hb H) (s : Sim Γ G H α μ) (en : EnvR Γ G H α ρ σ) (w : Wn Γ W σ Gb Hb αb R (MW.bnd (evs c ρ ts) k μ) Q) :
    tFs Γ c W ts σ H fun vs H1 => ∃ ds G1 α1 μ1, Gr G H α G1 H1 α1 ∧ Gr Gb Hb αb G1 H1 α1 ∧ Keep Hb H1 ∧ Sim Γ G1 H1 α1 μ1 ∧ EnvR Γ G1 H1 α1 ρ σ ∧ RepL Γ G1 α1 ds vs ∧ Wn Γ W σ Gb Hb αb R (k ds μ1) Q := by
  refine ⟨G, α, ρ, μ, s, en, ?_⟩
  exact (w.step (RA := LR Γ) gb kb s).mono fun b H1 ⟨x, G1, α1, μ1, g, g2, k2, s1, r, w1⟩ => ⟨x, G1, α1, μ1, g, g2, k2, s1, en.grow g, r, w1⟩
theorem se_done (F : Fit X Γ c W) {ke ve : Expr} {tk tv : E} {pos : Pos} (h1 : SE X Γ c W ke tk) (h2 : SE X Γ c W ve tv) : SE X Γ c W (.Dict [some ke] [ve] pos) (.done tk tv) := by
  refine ⟨fun pins s σ H Q I ⟨G, α, ρ, μ, sm, en, w⟩ => ?_⟩
  have hn := I.hok.fresh (Nat.le_refl s.heap.objs.size)
  have I1 : Inv X pins σ (upd H s.heap.objs.size (dicHO Γ.P Γ.w s.heap.objs.size [])) { s with heap := s.heap.push { cls := .type "dict", data := .dict #[] } } := by
    rw [F.P, F.w]
    exact I.laid (a := s.heap.objs.size) (t' := s.toks) (fun _ _ z => Heap.get?_push_of_some _ z) (Nat.le_refl _) (dic_new (dic_empty s.heap I.big))
  obtain ⟨g3, s3⟩ := allocF (o := dicHO Γ.P Γ.w s.heap.objs.size []) sm hn
  obtain ⟨gp, np⟩ := sm.none hn
  have ow : Own Γ G (upd H s.heap.objs.size (dicHO Γ.P Γ.w s.heap.objs.size [])) α s.heap.objs.size (.dct []) := ⟨[], upd_same, by simp only [RepK]⟩
  have kp : Keep H (upd H s.heap.objs.size (dicHO Γ.P Γ.w s.heap.objs.size [])) := g3.there sm s3
  have hsz : s.heap.objs.size = s.heap.objs.size := rfl
  generalize hp : s.heap.objs.size = p at *
  have en3 := en.grow g3
  refine wpAny_Dict_any rfl rfl (by simp) (by simp) (pairTrees_cons_walk (thn (h1.frz.run pins _ σ _ _ I1 (oneFB (c := c) g3 kp s3 en3 w)) fun kv s4 ⟨x, H4, I4, rx, d4, G4, α4, μ4, h4, g4, k4, sm4, en4, r4, w4⟩ =>
    thn (h2.frz.run pins s4 σ _ _ I4 (oneFB (c := c) g4 k4 sm4 en4 w4)) fun vv s5 ⟨y, H5, I5, ry, d5, G5, α5, μ5, h5, g5, k5, sm5, en5, r5, w5⟩ => pairTrees_nil_walk ?_))
  rw [hp]
  by_cases hk : keyOk d4 = true
  · rw [if_pos hk] at w5
    obtain ⟨gp4, np4, ow4⟩ := ow.grow h4 gp np
    obtain ⟨gp5, np5, ow5⟩ := ow4.grow h5 gp4 np4
    have rk := Rep.mono h5.le h5.pre _ _ r4
    obtain ⟨es, e, rep⟩ := ow5
    simp only [RepK] at rep
    subst rep
    obtain ⟨kk, a, nk, rfl, rfl, is, rx'⟩ := key_at I5 sm5 hk (.inl rk) rx
    obtain ⟨hd, hz, ys, pr, dd⟩ := dict_of (kvs := []) I5 sm5 ⟨F.P, F.w⟩ (.inl e) (by simp only [RepK])
    cases pr
    have hu := F.hu
    refine wpAny_storeAllH (knd := nestedKind X.prog X.w) (by show X.A.units + 8 < cLine; omega) [(.ref a, vv)] [(kk, a, vv)] [] s5 _ ⟨rfl, rfl, is, True.intro⟩ dd (by simp [sizeLine_eq]) fun h' tk dd' hs => ?_
    have he : ∃ q, h'.get? p = some q := let ⟨q, _, _, hq, _⟩ := dd'; ⟨q, hq⟩
    have I6 := d_write (t' := tk) I5 (by rw [e]; exact True.intro) hs he (dic_new (dic_of (es := [(kk, a, y)]) hd (by simp [sizeLine_eq]) (.cons ⟨rfl, rfl, ry⟩ .nil) dd'))
    rw [← F.P, ← F.w] at I6
    refine ⟨.ref p, _, I6, rfl, w5 _ G5 _ α5 (g5.wr hn) (sm5.wr gp5 np5) ⟨p, rfl, gp5, np5, ⟨_, upd_same, ?_⟩, hn, fun _ _ z => by cases z⟩⟩
    simp only [RepK, RepP]
    exact ⟨_, [], rfl, ⟨⟨hk, nk⟩, rk, r5⟩, rfl⟩
  · rw [if_neg hk] at w5; exact w5.elim
end
end MW
namespace MW
open PySem PySem.Spec PyProof.Rows L2
def putG {β : Type} (le : β → β → Bool) (x : β) : List β → List β
  | [] => [x]
  | y :: ys => if le x y then x :: y :: ys else y :: putG le x ys
def srtG {β : Type} (le : β → β → Bool) : List β → List β
  | [] => []
  | x :: xs => putG le x (srtG le xs)
section
variable {β : Type} {le : β → β → Bool}
theorem putG_mem {x z : β} : ∀ {ys : List β}, z ∈ putG le x ys → z = x ∨ z ∈ ys
  | [], h => by simp [putG] at h; exact .inl h
  | y :: ys, h => by
    unfold putG at h
    by_cases c : le x y = true
    · rw [if_pos c] at h
      rcases List.mem_cons.mp h with h | h
      · exact .inl h
      · exact .inr h
    · rw [if_neg c] at h
      rcases List.mem_cons.mp h with h | h
      · exact .inr (by rw [h]; simp)
      · rcases putG_mem h with h | h
        · exact .inl h
        · exact .inr (List.mem_cons_of_mem _ h)
theorem srtG_mem {z : β} : ∀ {xs : List β}, z ∈ srtG le xs → z ∈ xs
  | [], h => h
  | x :: xs, h => by
    rcases putG_mem (show z ∈ putG le x (srtG le xs) from h) with h | h
    · rw [h]; simp
    · exact List.mem_cons_of_mem _ (srtG_mem h)
theorem putG_sorted (T : PySem.W.TotalLe le) {x : β} : ∀ {ys : List β}, ys.Pairwise (fun a b => le a b = true) → (putG le x ys).Pairwise (fun a b => le a b = true)
  | [], _ => by simp [putG]
  | y :: ys, h => by
    unfold putG
    by_cases c : le x y = true
    · rw [if_pos c]
      refine List.pairwise_cons.mpr ⟨fun z hz => ?_, h⟩
      rcases List.mem_cons.mp hz with rfl | hz
      · exact c
      · exact T.trans _ _ _ c ((List.pairwise_cons.mp h).1 z hz)
    · rw [if_neg c]
      refine List.pairwise_cons.mpr ⟨fun z hz => ?_, putG_sorted T (List.pairwise_cons.mp h).2⟩
      rcases putG_mem hz with rfl | hz
      · exact (T.total _ _).resolve_left c
      · exact (List.pairwise_cons.mp h).1 z hz
theorem srtG_sorted (T : PySem.W.TotalLe le) : ∀ (xs : List β), (srtG le xs).Pairwise (fun a b => le a b = true)
  | [] => List.Pairwise.nil
  | x :: xs => putG_sorted T (srtG_sorted T xs)
theorem putG_rank (T : PySem.W.TotalLe le) (c x : β) : ∀ (ys : List β), (putG le x ys).filter (PySem.W.sameRank le c) = (x :: ys).filter (PySem.W.sameRank le c)
  | [] => rfl
  | y :: ys => by
    unfold putG
    by_cases h : le x y = true
    · rw [if_pos h]
    · rw [if_neg h]
      have ih := putG_rank T c x ys
      by_cases hx : PySem.W.sameRank le c x = true
      · have hy : ¬ PySem.W.sameRank le c y = true := fun hy => by
          unfold PySem.W.sameRank at hx hy
          rw [Bool.and_eq_true] at hx hy
          exact h (T.trans _ _ _ hx.2 hy.1)
        rw [List.filter_cons_of_neg hy, ih, List.filter_cons_of_pos hx, List.filter_cons_of_pos hx, List.filter_cons_of_neg hy]
      · rw [List.filter_cons_of_neg hx] at ih ⊢
        rw [List.filter_cons, List.filter_cons, ih]
theorem srtG_rank (T : PySem.W.TotalLe le) (c : β) : ∀ (xs : List β), (srtG le xs).filter (PySem.W.sameRank le c) = xs.filter (PySem.W.sameRank le c)
  | [] => rfl
  | x :: xs => by
    show (putG le x (srtG le xs)).filter _ = _
    rw [putG_rank T, List.filter_cons, List.filter_cons, srtG_rank T c xs]
theorem srtG_merge (T : PySem.W.TotalLe le) (xs : List β) : srtG le xs = xs.mergeSort le := PySem.W.sort_unique T (srtG_sorted T xs) fun c => srtG_rank T c xs
end
theorem insR_put {le : D → D → Bool} (x : D) : ∀ (ys : List D), (∀ y ∈ ys, (!ltB y x) = le x y) → sortD.insR x ys = putG le x ys
  | [], _ => rfl
  | y :: ys, h => by
    have e := h y (by simp)
    simp only [sortD.insR, putG]
    cases q : ltB y x with
    | true =>
      rw [q] at e
      rw [← e]
      simp [insR_put x ys fun z hz => h z (List.mem_cons_of_mem _ hz)]
    | false =>
      rw [q] at e
      rw [← e]
      simp
theorem sortD_srt {le : D → D → Bool} : ∀ (xs : List D), (∀ x ∈ xs, ∀ y ∈ xs, (!ltB y x) = le x y) → sortD xs = srtG le xs
  | [], _ => rfl
  | x :: xs, h => by
    have ih := sortD_srt xs fun a ha b hb => h a (List.mem_cons_of_mem _ ha) b (List.mem_cons_of_mem _ hb)
    simp only [sortD, srtG]
    rw [ih]
    exact insR_put x _ fun y hy => h x (by simp) y (List.mem_cons_of_mem _ (srtG_mem hy))
mutual
theorem lt_py : ∀ (a b : D) (n m : Nat), ordered a = true → ordered b = true → plain n a = true → plain m b = true → sameKind a b = true → PySem.W.alike (toPy a) (toPy b) = true ∧ ordD .lt a b = some (PySem.W.dataLt (toPy a) (toPy b))
  | .int i, b, n, m, _, _, _, _, h => by
    cases b <;> first | exact absurd (show false = true from h) Bool.false_ne_true | skip
    simp only [toPy, ordD, PySem.W.dataLt_int, PySem.W.alike]
    exact ⟨trivial, rfl⟩
  | .str x, b, n, m, _, _, _, _, h => by
    cases b <;> first | exact absurd (show false = true from h) Bool.false_ne_true | skip
    simp only [toPy, ordD, PySem.W.dataLt_str, PySem.W.alike]
    exact ⟨trivial, rfl⟩
  | .tup xs, b, n, m, h1, h2, p1, p2, h => by
    cases b <;> first | exact absurd (show false = true from h) Bool.false_ne_true | skip
    rename_i ys
    simp only [ordered] at h1 h2
    simp only [plain] at p1 p2
    simp only [sameKind] at h
    have r := lts_py xs ys n m h1 h2 p1 p2 h
    simp only [toPy, ordD, PySem.W.dataLt_tuple, PySem.W.alike]
    exact r
  | .non, b, n, m, h, _, _, _, _ => absurd (show false = true from h) Bool.false_ne_true
  | .bl _, b, n, m, h, _, _, _, _ => absurd (show false = true from h) Bool.false_ne_true
  | .lst _, b, n, m, h, _, _, _, _ => absurd (show false = true from h) Bool.false_ne_true
  | .dct _, b, n, m, h, _, _, _, _ => absurd (show false = true from h) Bool.false_ne_true
  | .ins _ _, b, n, m, h, _, _, _, _ => absurd (show false = true from h) Bool.false_ne_true
  | .ref _, b, n, m, h, _, _, _, _ => absurd (show false = true from h) Bool.false_ne_true
  | .scr _, b, n, m, h, _, _, _, _ => absurd (show false = true from h) Bool.false_ne_true
theorem lts_py : ∀ (xs ys : List D) (n m : Nat), ordereds xs = true → ordereds ys = true → plains n xs = true → plains m ys = true → sameKinds xs ys = true → PySem.W.alikeAll (toPys xs) (toPys ys) = true ∧ ordDs .lt xs ys = some (PyProof.Rows.lexLt itemOrd (PySem.W.keyToksAll (toPys xs)) (PySem.W.keyToksAll (toPys ys)))
  | [], [], _, _, _, _, _, _, _ => ⟨by simp [toPys, PySem.W.alikeAll], by simp [toPys, PySem.W.keyToksAll, ordDs, Lo.len]; rfl⟩
  | [], y :: ys, _, _, _, _, _, _, _ => ⟨by simp [toPys, PySem.W.alikeAll], by simp [toPys, PySem.W.keyToksAll, ordDs, Lo.len]; rfl⟩
  | x :: xs, [], _, _, _, _, _, _, _ => ⟨by simp [toPys, PySem.W.alikeAll], by simp [toPys, PySem.W.keyToksAll, ordDs, Lo.len]; rfl⟩
  | x :: xs, y :: ys, 0, _, _, _, p, _, _ => by simp [plains] at p
  | x :: xs, y :: ys, _, 0, _, _, _, p, _ => by simp [plains] at p
  | x :: xs, y :: ys, n + 1, m + 1, h1, h2, p1, p2, h => by
    simp only [ordereds, Bool.and_eq_true] at h1 h2
    simp only [plains, Bool.and_eq_true] at p1 p2
    simp only [sameKinds, Bool.and_eq_true] at h
    obtain ⟨a1, a2⟩ := lt_py x y n m h1.1 h2.1 p1.1 p2.1 h.1
    obtain ⟨b1, b2⟩ := lts_py xs ys (n + 1) (m + 1) h1.2 h2.2 p1.2 p2.2 h.2
    refine ⟨by simp only [toPys, PySem.W.alikeAll, a1, b1, Bool.and_self], ?_⟩
    simp only [toPys, ordDs]
    rw [PySem.W.dataLt_cons a1, b2, a2, eq_py n m x y p1.1 p2.1]
    by_cases q : eqD x y = true
    · simp only [q, if_true]
    · rw [if_neg q]; exact if_neg q
end
theorem le_py {a b : D} (h1 : ordered a = true) (h2 : ordered b = true) (p1 : plain64 a = true) (p2 : plain64 b = true) (h : sameKind b a = true) : (!ltB b a) = PySem.W.dataLe false toPy a b := by
  obtain ⟨_, e⟩ := lt_py b a 60 60 h2 h1 p2 p1 h
  unfold ltB
  rw [e, PySem.W.dataLe_eq]
  rfl
theorem sort_py {xs : List D} (h : sortOk xs = true) : sortD xs = xs.mergeSort (PySem.W.dataLe false toPy) := by
  simp only [sortOk, Bool.and_eq_true, List.all_eq_true, decide_eq_true_eq] at h
  obtain ⟨⟨⟨⟨_, h1⟩, h2⟩, h3⟩, _⟩ := h
  rw [sortD_srt (le := PySem.W.dataLe false toPy) xs fun x hx y hy => le_py (h1 x hx) (h1 y hy) (h3 x hx) (h3 y hy) (h2 y hy x hx)]
  exact srtG_merge (PySem.W.sortLe_total _ _ _) xs
end MW
namespace MW
open PySem PySem.Spec PyProof.Rows L2
def rB1 (Γ : GX) (o : B1) : List V → Hp → VK → Prop := fun xs H Q => ∃ v G α μ H0 d z, xs = [v] ∧ Sim Γ G H α μ ∧ Keep H0 H ∧ RdR Γ G H α d v ∧ b1D o d = some z ∧
  ∀ b G' H' α', Gr G H α G' H' α' → Sim Γ G' H' α' μ → VlR Γ H0 G' H' α' z b → Q b H'
section
variable {X : Cx} {Γ : GX} {c : CL} {W : WX} {σ : L2.St} {ρ : List Sl} {G H G1 H1 H0 : Hp} {α α1 : List Addr} {μ μ1 : Mu} {pins : List (Addr × Obj)} {s : Shared} {Q : VK}
theorem ints_rep : ∀ {ds : List D} {vs : List V} {is : List Int}, RepL Γ G α ds vs → intsD ds = some is → vs = is.map V.int
  | [], vs, is, r, e => by
    simp only [RepL] at r; subst r
    simp only [intsD, Option.some.injEq] at e; subst e; rfl
  | d :: ds, vs, is, r, e => by
    simp only [RepL] at r
    obtain ⟨v, rr, rfl, r1, r2⟩ := r
    cases d <;> first | (simp [intsD] at e; done) | skip
    rename_i i
    simp only [intsD, Option.map_eq_some_iff] at e
    obtain ⟨js, e1, rfl⟩ := e
    simp only [Rep] at r1; subst r1
    rw [ints_rep r2 e1]; rfl
theorem bools_rep : ∀ {ds : List D} {vs : List V} {is : List Bool}, RepL Γ G α ds vs → boolsD ds = some is → vs = is.map V.bl
  | [], vs, is, r, e => by
    simp only [RepL] at r; subst r
    simp only [boolsD, Option.some.injEq] at e; subst e; rfl
  | d :: ds, vs, is, r, e => by
    simp only [RepL] at r
    obtain ⟨v, rr, rfl, r1, r2⟩ := r
    cases d <;> first | (simp [boolsD] at e; done) | skip
    rename_i i
    simp only [boolsD, Option.map_eq_some_iff] at e
    obtain ⟨js, e1, rfl⟩ := e
    simp only [Rep] at r1; subst r1
    rw [bools_rep r2 e1]; rfl
theorem scr_rep : ∀ (is : List Int), RepL Γ G α (is.map D.int) (is.map V.int)
  | [] => RepL.nil
  | i :: is => RepL.cons (by simp only [Rep]) (scr_rep is)
theorem maxI_max : ∀ (r : List Int) (a : Int), maxI a r ∈ a :: r ∧ ∀ y ∈ a :: r, y ≤ maxI a r
  | [], a => by simp [maxI]
  | b :: r, a => by
    have step : ∀ c, (c = a ∨ c = b) → a ≤ c → b ≤ c → maxI c r ∈ a :: b :: r ∧ ∀ y ∈ a :: b :: r, y ≤ maxI c r := fun c hc ha hb => by
      obtain ⟨h1, h2⟩ := maxI_max r c
      have hx := h2 c (by simp)
      refine ⟨?_, fun y hy => ?_⟩
      · rcases List.mem_cons.mp h1 with h | h
        · rw [h]; rcases hc with rfl | rfl <;> simp
        · exact List.mem_cons_of_mem _ (List.mem_cons_of_mem _ h)
      · rcases List.mem_cons.mp hy with h | h
        · omega
        · rcases List.mem_cons.mp h with h | h
          · omega
          · exact h2 y (List.mem_cons_of_mem _ h)
    unfold maxI
    by_cases h : a < b
    · rw [if_pos h]; exact step b (.inr rfl) (by omega) (by omega)
    · rw [if_neg h]; exact step a (.inl rfl) (by omega) (by omega)
theorem minI_min : ∀ (r : List Int) (a : Int), minI a r ∈ a :: r ∧ ∀ y ∈ a :: r, minI a r ≤ y
  | [], a => by simp [minI]
  | b :: r, a => by
    have step : ∀ c, (c = a ∨ c = b) → c ≤ a → c ≤ b → minI c r ∈ a :: b :: r ∧ ∀ y ∈ a :: b :: r, minI c r ≤ y := fun c hc ha hb => by
      obtain ⟨h1, h2⟩ := minI_min r c
      have hx := h2 c (by simp)
      refine ⟨?_, fun y hy => ?_⟩
      · rcases List.mem_cons.mp h1 with h | h
        · rw [h]; rcases hc with rfl | rfl <;> simp
        · exact List.mem_cons_of_mem _ (List.mem_cons_of_mem _ h)
      · rcases List.mem_cons.mp hy with h | h
        · omega
        · rcases List.mem_cons.mp h with h | h
          · omega
          · exact h2 y (List.mem_cons_of_mem _ h)
    unfold minI
    by_cases h : b < a
    · rw [if_pos h]; exact step b (.inr rfl) (by omega) (by omega)
    · rw [if_neg h]; exact step a (.inl rfl) (by omega) (by omega)
theorem met_fold : ∀ (is acc : List Int), met acc is = is.foldl PyProof.Rows.step_dedup acc
  | [], _ => rfl
  | i :: is, acc => by
    simp only [met, List.foldl_cons]
    rw [met_fold is]; rfl
theorem met_first (is : List Int) : PyProof.Rows.firstMet (fun i => is.getD i 0) is.length = met [] is := by
  unfold PyProof.Rows.firstMet
  rw [met_fold]
  congr 1
  apply List.ext_getElem?
  intro i
  rw [List.getElem?_map]
  by_cases h : i < is.length
  · rw [List.getElem?_range h]
    simp [List.getD_eq_getElem?_getD, h]
  · rw [List.getElem?_eq_none (by simpa using h), List.getElem?_eq_none (by simpa using h)]; rfl
theorem out_lst {ds : List D} {vs : List V} {p : Addr} (sm : Sim Γ G H α μ) (k : Keep H0 H) (hp : H p = none) (r : RepL Γ G α ds vs) (w : ∀ b G' H' α', Gr G H α G' H' α' → Sim Γ G' H' α' μ → VlR Γ H0 G' H' α' (.frs (.lst ds)) b → Q b H') : Q (.ref p) (upd H p (.lst vs)) := by
  obtain ⟨g3, s3⟩ := allocF (o := .lst vs) sm hp
  obtain ⟨gp, np⟩ := sm.none hp
  exact w _ _ _ _ g3 s3 ⟨p, rfl, gp, np, ⟨vs, upd_same, RepL.mono g3.le g3.pre _ _ r⟩, k.none hp, fun _ _ z => by cases z⟩
theorem out_tup {ds : List D} {vs : List V} {p : Addr} (sm : Sim Γ G H α μ) (hp : H p = none) (r : RepL Γ G α ds vs) (w : ∀ b G' H' α', Gr G H α G' H' α' → Sim Γ G' H' α' μ → VlR Γ H0 G' H' α' (.dat (.tup ds)) b → Q b H') : Q (.ref p) (upd H p (.tup vs)) := by
  obtain ⟨g3, s3⟩ := alloc (o := .tup vs) sm hp
  refine w _ _ _ _ g3 s3 ?_
  simp only [VlR, Rep]
  exact ⟨p, vs, rfl, upd_same, RepL.mono g3.le g3.pre _ _ r⟩
theorem out_dat {d : D} {v : V} (sm : Sim Γ G H α μ) (r : Rep Γ G α d v) (w : ∀ b G' H' α', Gr G H α G' H' α' → Sim Γ G' H' α' μ → VlR Γ H0 G' H' α' (.dat d) b → Q b H') : Q v H := w _ _ _ _ (Gr.refl _ _ _) sm r
theorem lst_of (sm : Sim Γ G H α μ) {d : D} {xs : List D} {v : V} (h : RdR Γ G H α d v) (e : lstOf d = some xs) : ∃ a vs, v = .ref a ∧ H a = some (.lst vs) ∧ RepL Γ G α xs vs := by
  cases d <;> first | (simp only [lstOf, reduceCtorEq] at e; done) | skip
  simp only [lstOf, Option.some.injEq] at e
  subst e
  exact h.lst sm
theorem ints_of (sm : Sim Γ G H α μ) {d : D} {is : List Int} {v : V} (h : RdR Γ G H α d v) (e : intsOf d = some is) : ∃ a, v = .ref a ∧ H a = some (.lst (is.map V.int)) := by
  obtain ⟨xs, e1, e2⟩ := Option.bind_eq_some_iff.mp e
  obtain ⟨a, vs, rfl, h1, r⟩ := lst_of sm h e1
  rw [ints_rep r e2] at h1
  exact ⟨a, rfl, h1⟩
theorem b1_len (F : Fit X Γ c W) : CallR X (.builtin "len") (rB1 Γ .len) := by
  intro pins s σ H xs us Q I r ⟨v, G, α, μ, H0, d, z, e0, sm, k, hx, e, w⟩
  subst e0
  cases d <;> simp only [b1D, lenD, reduceCtorEq, Option.some.injEq] at e
  · rename_i x
    split at e
    · rename_i hl
      cases e
      have q := hx.str; subst q
      exact call_len_str pins s σ H _ us Q I r ⟨_, rfl, LINEs hl, out_dat sm (by simp only [Rep]) w⟩
    · cases e
  · subst e
    obtain ⟨a, vs, rfl, h1, rl⟩ := hx.tup sm
    refine call_len_seq pins s σ H _ us Q I r ⟨a, vs, rfl, .inr (SqT.of h1), ?_⟩
    rw [← rl.length]
    exact out_dat sm (by simp only [Rep]) w
  · subst e
    obtain ⟨a, vs, rfl, h1, rl⟩ := hx.lst sm
    refine call_len_seq pins s σ H _ us Q I r ⟨a, vs, rfl, .inl (SqL.of h1), ?_⟩
    rw [← rl.length]
    exact out_dat sm (by simp only [Rep]) w
  · subst e
    obtain ⟨a, es, rfl, h1, rk⟩ := dct_at sm hx
    obtain ⟨u, rfl, ru⟩ := L2.vals1 r
    cases ru
    obtain ⟨hd, hz, ys, pr, dd⟩ := dict_of I sm ⟨F.P, F.w⟩ h1 rk
    have l1 := Paired.length pr
    have l2 := rk.length
    refine call_len_dictH hd dd (by rw [← l1]; rw [sizeLine_eq] at hz; omega) ?_
    rw [← l1, ← l2]
    exact ⟨.int _, H, I.tok _, ⟨_, rfl⟩, out_dat sm (by simp only [Rep]) w⟩
  · subst e
    obtain ⟨a, rfl, h1⟩ := seq_at sm F.K hx
    refine call_len_seq pins s σ H _ us Q I r ⟨a, _, rfl, .inl h1, ?_⟩
    rw [List.length_map]
    exact out_dat sm (by simp only [Rep]) w
theorem b1_sum (hc : X.calm = true) : CallR X (.builtin "sum") (rB1 Γ .sum) := by
  intro pins s σ H xs us Q I r ⟨v, G, α, μ, H0, d, z, e0, sm, k, hx, e, w⟩
  subst e0
  simp only [b1D, Option.map_eq_some_iff] at e
  obtain ⟨is, e1, rfl⟩ := e
  obtain ⟨a, rfl, h1⟩ := ints_of sm hx e1
  exact cr_sum hc pins s σ H _ us Q I r ⟨a, is, rfl, SqL.of h1, out_dat sm (by simp only [Rep]) w⟩
theorem b1_max (hc : X.calm = true) : CallR X (.builtin "max") (rB1 Γ .max) := by
  intro pins s σ H xs us Q I r ⟨v, G, α, μ, H0, d, z, e0, sm, k, hx, e, w⟩
  subst e0
  simp only [b1D, Option.bind_eq_some_iff] at e
  obtain ⟨is, e1, e2⟩ := e
  obtain ⟨a, rfl, h1⟩ := ints_of sm hx e1
  cases is with
  | nil => simp [maxL] at e2
  | cons i is =>
    simp only [maxL, Option.some.injEq] at e2
    subst e2
    refine cr_max hc pins s σ H _ us Q I r ⟨a, i :: is, rfl, SqL.of h1, by simp, fun m h2 h3 => ?_⟩
    obtain ⟨h4, h5⟩ := maxI_max is i
    have e5 : m = maxI i is := Int.le_antisymm (h5 m h2) (h3 _ h4)
    rw [e5]
    exact out_dat sm (by simp only [Rep]) w
theorem b1_min (hc : X.calm = true) : CallR X (.builtin "min") (rB1 Γ .min) := by
  intro pins s σ H xs us Q I r ⟨v, G, α, μ, H0, d, z, e0, sm, k, hx, e, w⟩
  subst e0
  simp only [b1D, Option.bind_eq_some_iff] at e
  obtain ⟨is, e1, e2⟩ := e
  obtain ⟨a, rfl, h1⟩ := ints_of sm hx e1
  cases is with
  | nil => simp [minL] at e2
  | cons i is =>
    simp only [minL, Option.some.injEq] at e2
    subst e2
    refine cr_min hc pins s σ H _ us Q I r ⟨a, i :: is, rfl, SqL.of h1, by simp, fun m h2 h3 => ?_⟩
    obtain ⟨h4, h5⟩ := minI_min is i
    have e5 : m = minI i is := Int.le_antisymm (h3 _ h4) (h5 m h2)
    rw [e5]
    exact out_dat sm (by simp only [Rep]) w
theorem b1_all (hc : X.calm = true) : CallR X (.builtin "all") (rB1 Γ .all) := by
  intro pins s σ H xs us Q I r ⟨v, G, α, μ, H0, d, z, e0, sm, k, hx, e, w⟩
  subst e0
  simp only [b1D, Option.map_eq_some_iff, Option.bind_eq_some_iff] at e
  obtain ⟨bs, ⟨xs, e1, e2⟩, rfl⟩ := e
  obtain ⟨a, vs, rfl, h1, rl⟩ := lst_of sm hx e1
  rw [bools_rep rl e2] at h1
  exact cr_all hc pins s σ H _ us Q I r ⟨a, bs, rfl, SqL.of h1, out_dat sm (by simp only [Rep]) w⟩
theorem b1_any (hc : X.calm = true) : CallR X (.builtin "any") (rB1 Γ .any) := by
  intro pins s σ H xs us Q I r ⟨v, G, α, μ, H0, d, z, e0, sm, k, hx, e, w⟩
  subst e0
  simp only [b1D, Option.map_eq_some_iff, Option.bind_eq_some_iff] at e
  obtain ⟨bs, ⟨xs, e1, e2⟩, rfl⟩ := e
  obtain ⟨a, vs, rfl, h1, rl⟩ := lst_of sm hx e1
  rw [bools_rep rl e2] at h1
  exact cr_any hc pins s σ H _ us Q I r ⟨a, bs, rfl, SqL.of h1, out_dat sm (by simp only [Rep]) w⟩
theorem b1_tuple : CallR X (.type "tuple") (rB1 Γ .tuple) := by
  intro pins s σ H xs us Q I r ⟨v, G, α, μ, H0, d, z, e0, sm, k, hx, e, w⟩
  subst e0
  cases d <;> simp only [b1D, tupleD, reduceCtorEq, Option.some.injEq] at e
  · rename_i ts
    subst e
    have hx' : Rep Γ G α (.tup ts) v := by
      rcases hx with h | ⟨_, _, o⟩
      · exact h
      · exact o.elim
    obtain ⟨a, vs, rfl, h1, rl⟩ := hx.tup sm
    exact call_tuple_of pins s σ H _ us Q I r ⟨a, vs, rfl, .inr ⟨SqT.of h1, out_dat sm hx' w⟩⟩
  · subst e
    obtain ⟨a, vs, rfl, h1, rl⟩ := hx.lst sm
    exact call_tuple_of pins s σ H _ us Q I r ⟨a, vs, rfl, .inl ⟨SqL.of h1, fun l hl => out_tup sm hl rl w⟩⟩
theorem b1_int : CallR X (.type "int") (rB1 Γ .int) := by
  intro pins s σ H xs us Q I r ⟨v, G, α, μ, H0, d, z, e0, sm, k, hx, e, w⟩
  subst e0
  cases d <;> simp only [b1D, intD, reduceCtorEq, Option.some.injEq] at e
  · subst e
    have q := hx.bl; subst q
    exact call_int1 pins s σ H _ us Q I r (.inr ⟨_, rfl, out_dat sm (by simp only [Rep]) w⟩)
  · subst e
    have q := hx.int; subst q
    exact call_int1 pins s σ H _ us Q I r (.inl ⟨_, rfl, out_dat sm (by simp only [Rep]) w⟩)
theorem b1_abs : CallR X (.builtin "abs") (rB1 Γ .abs) := by
  intro pins s σ H xs us Q I r ⟨v, G, α, μ, H0, d, z, e0, sm, k, hx, e, w⟩
  subst e0
  cases d <;> simp only [b1D, absD, reduceCtorEq, Option.some.injEq] at e
  subst e
  have q := hx.int; subst q
  exact call_abs pins s σ H _ us Q I r ⟨_, rfl, out_dat sm (by simp only [Rep]) w⟩
theorem b1_str : CallR X (.type "str") (rB1 Γ .str) := by
  intro pins s σ H xs us Q I r ⟨v, G, α, μ, H0, d, z, e0, sm, k, hx, e, w⟩
  subst e0
  cases d <;> simp only [b1D, strD, reduceCtorEq] at e
  split at e
  · rename_i hl
    cases e
    have q := hx.int; subst q
    exact call_str_int pins s σ H _ us Q I r ⟨_, rfl, hl, out_dat sm (by simp only [Rep]) w⟩
  · cases e
end
end MW
namespace MW
open PySem PySem.Spec PyProof.Rows L2
section
variable {X : Cx} {Γ : GX} {c : CL} {W : WX} {σ : L2.St} {ρ : List Sl} {G H G1 H1 H0 : Hp} {α α1 : List Addr} {μ μ1 : Mu} {pins : List (Addr × Obj)} {s : Shared} {Q : VK}
theorem RepK.keys : ∀ {kvs : List (D × D)} {es : List (Kd × Addr × V)}, RepK Γ G α kvs es → RepL Γ G α (kvs.map (·.1)) (es.map fun x => V.ref x.2.1)
  | [], es, h => by simp only [RepK] at h; subst h; exact RepL.nil
  | (k, d) :: r, es, h => by
    simp only [RepK] at h
    obtain ⟨e, er, rfl, hp, hr⟩ := h
    simp only [RepP] at hp
    exact RepL.cons hp.2.1 hr.keys
theorem keys_items {P : Program} {w : World} {es : Array DictEntry} {ys : List (Kd × Addr × Value)} {acc : Array Value} (he : es.toList = ys.map (entryOfKey (nestedKind P w))) (it : PySem.ItemsOf (fun i v => ∃ en : DictEntry, es[i]? = some en ∧ v = en.key) acc es.size) : acc.toList = ys.map fun x => Value.ref x.2.1 := by
  have l1 : es.size = ys.length := size_of_entries he
  have hl : acc.toList.length = ys.length := by rw [Array.length_toList, it.1]; exact l1
  apply List.ext_getElem?
  intro j
  rw [List.getElem?_map]
  cases hj : acc.toList[j]? with
  | none =>
    have h1 := List.getElem?_eq_none_iff.mp hj
    rw [List.getElem?_eq_none (by omega)]; rfl
  | some v =>
    obtain ⟨en, hen, hv⟩ := it.2 j v (by rw [← Array.getElem?_toList]; exact hj)
    have qe := entry_at he j
    rw [hen] at qe
    cases hb : ys[j]? with
    | none => rw [hb] at qe; exact nomatch (show some en = none from qe)
    | some b =>
      rw [hb] at qe
      have e2 : en = entryOfKey (nestedKind P w) b := Option.some.inj qe
      rw [hv, e2]; rfl
theorem ents_refs : ∀ {es : List (Kd × Addr × V)} {ys : List (Kd × Addr × Value)}, Paired EntP es ys → Vals (es.map fun x => V.ref x.2.1) (ys.map fun x => Value.ref x.2.1)
  | _, _, .nil => .nil
  | _, _, .cons q r => .cons (congrArg Value.ref q.2.1.symm) (ents_refs r)
theorem b1_list (F : Fit X Γ c W) (hc : X.calm = true) : CallR X (.type "list") (rB1 Γ .list) := by
  intro pins s σ H xs us Q I r ⟨v, G, α, μ, H0, d, z, e0, sm, k, hx, e, w⟩
  subst e0
  cases d <;> simp only [b1D, listD, reduceCtorEq, Option.some.injEq] at e
  · subst e
    obtain ⟨a, vs, rfl, h1, rl⟩ := hx.tup sm
    exact call_list_of pins s σ H _ us Q I r ⟨a, vs, rfl, .inr (SqT.of h1), fun l hl => out_lst sm k hl rl w⟩
  · subst e
    obtain ⟨a, vs, rfl, h1, rl⟩ := hx.lst sm
    exact call_list_of pins s σ H _ us Q I r ⟨a, vs, rfl, .inl (SqL.of h1), fun l hl => out_lst sm k hl rl w⟩
  · subst e
    obtain ⟨a, es, rfl, h1, rk⟩ := dct_at sm hx
    obtain ⟨u, rfl, ru⟩ := L2.vals1 r
    cases ru
    rw [F.P, F.w] at h1
    obtain ⟨⟨hd, hz, nd, o, ents, ep, ys, ho, hex, hdt, pr, he⟩, _, _⟩ := (show ObjOk X.prog X.w H s.heap a (dicHO X.prog X.w a es) from h1.ok I.hok)
    have l1 : ents.size = ys.length := size_of_entries he
    have l2 := Paired.length pr
    refine PySem.W.kdl_call (kdl_raw hd hex hdt) (I.ok.hd hc) ho (by omega) fun h' tk acc' c' kp e2 it => ?_
    have ea := keys_items he it
    have rv : Vals (es.map fun x => V.ref x.2.1) acc'.toList := by rw [ea]; exact ents_refs pr
    refine ⟨.ref s.heap.objs.size, _, I.laid (t' := tk) (o := .lst (es.map fun x => V.ref x.2.1)) kp (Nat.le_refl _) ?_, rfl, out_lst sm k (I.hok.fresh (Nat.le_refl _)) rk.keys w⟩
    exact ⟨by rw [List.length_map]; exact hz, acc'.toList, c', rv, by rw [Array.toArray_toList]; exact e2⟩
  · subst e
    obtain ⟨a, rfl, h1⟩ := seq_at sm F.K hx
    exact call_list_of pins s σ H _ us Q I r ⟨a, _, rfl, .inl h1, fun l hl => out_lst sm k hl (scr_rep _) w⟩
theorem each_of : ∀ {vs : List V} {us : List Value} {ds : List D}, Vals vs us → ds.length = vs.length → PySem.W.EachIs (fun (u : Value) (b : D × V) => RelV b.2 u) us (ds.zip vs)
  | [], _, [], .nil, _ => .nil
  | v :: vs, _, d :: ds, .cons r t, h => .cons r (each_of t (by simpa using h))
  | [], _, _ :: _, _, h => by simp at h
  | _ :: _, _, [], _, h => by simp at h
theorem zip_rep : ∀ {ds : List D} {vs : List V}, RepL Γ G α ds vs → ∀ b ∈ ds.zip vs, Rep Γ G α b.1 b.2
  | [], vs, r, b, h => by simp at h
  | d :: ds, vs, r, b, h => by
    simp only [RepL] at r
    obtain ⟨v, rr, rfl, r1, r2⟩ := r
    rw [List.zip_cons_cons] at h
    rcases List.mem_cons.mp h with rfl | h
    · exact r1
    · exact zip_rep r2 b h
theorem rep_zip : ∀ {bs : List (D × V)}, (∀ b ∈ bs, Rep Γ G α b.1 b.2) → RepL Γ G α (bs.map (·.1)) (bs.map (·.2))
  | [], _ => RepL.nil
  | b :: bs, h => RepL.cons (h b (by simp)) (rep_zip fun x hx => h x (List.mem_cons_of_mem _ hx))
theorem each_vals : ∀ {us : List Value} {bs : List (D × V)}, PySem.W.EachIs (fun (u : Value) (b : D × V) => RelV b.2 u) us bs → Vals (bs.map (·.2)) us
  | _, _, .nil => .nil
  | _, _, .cons r t => .cons r (each_vals t)
theorem b1_sorted (F : Fit X Γ c W) : CallR X (.builtin "sorted") (rB1 Γ .sorted) := by
  intro pins s σ H xs us Q I r ⟨v, G, α, μ, H0, d, z, e0, sm, k, hx, e, w⟩
  subst e0
  simp only [b1D, Option.bind_eq_some_iff] at e
  obtain ⟨ds, e1, e2⟩ := e
  by_cases hs : sortOk ds = true
  · rw [if_pos hs] at e2
    cases e2
    obtain ⟨a, vs, rfl, h1, rl⟩ := lst_of sm hx e1
    rw [Vals.ref1 r]
    obtain ⟨its, rv, pl, hz⟩ := I.list (SqL.of h1)
    have hso := hs
    simp only [sortOk, Bool.and_eq_true, List.all_eq_true, decide_eq_true_eq] at hs
    obtain ⟨⟨⟨⟨hl, ho⟩, hk⟩, hp⟩, ht⟩ := hs
    have len : ds.length = vs.length := rl.length
    have zm : ∀ b ∈ ds.zip vs, b.1 ∈ ds := fun b hb => (List.of_mem_zip (a := b.1) (b := b.2) hb).1
    have hu := F.hu
    refine PySem.W.sorted_data (bs := ds.zip vs) (enc := fun b => toPy b.1) (R := fun u b => RelV b.2 u) pl.isList (each_of rv len) ?_ ?_ ?_ ?_ ?_ fun out ol oe => ?_
    · refine PySem.W.EachIs.of_zip (by rw [List.length_zip, ← len, Nat.min_self, len, rv.length]) fun p hp' => ?_
      have q := (each_of rv len).zip p hp'
      have mb : p.2 ∈ ds.zip vs := (List.of_mem_zip (a := p.1) (b := p.2) hp').2
      obtain ⟨as, rr⟩ := Dp.reads I (toPy p.2.1) p.2.2 p.1 (Rep.dp sm 60 _ _ (hp _ (zm _ mb)) (zip_rep rl _ mb)) q
      exact ⟨as, rr⟩
    · intro d1 m1 d2 m2
      obtain ⟨b1, q1, rfl⟩ := List.mem_map.mp m1
      obtain ⟨b2, q2, rfl⟩ := List.mem_map.mp m2
      exact (lt_py b1.1 b2.1 60 60 (ho _ (zm _ q1)) (ho _ (zm _ q2)) (hp _ (zm _ q1)) (hp _ (zm _ q2)) (hk _ (zm _ q1) _ (zm _ q2))).1
    · rw [Bool.or_eq_true, List.all_eq_true, List.all_eq_true] at ht
      rcases ht with ht | ht
      · refine .inl fun d1 m1 => ?_
        obtain ⟨b1, q1, rfl⟩ := List.mem_map.mp m1
        have q := ht _ (zm _ q1)
        cases e : b1.1 <;> rw [e] at q <;> first | exact absurd (show false = true from q) Bool.false_ne_true | skip
        rename_i ts
        cases ts with
        | nil => exact absurd (show false = true from q) Bool.false_ne_true
        | cons t ts => exact ⟨toPy t, toPys ts, by simp only [toPy, toPys]⟩
      · refine .inr fun d1 m1 => ?_
        obtain ⟨b1, q1, rfl⟩ := List.mem_map.mp m1
        have q := ht _ (zm _ q1)
        have o := ho _ (zm _ q1)
        cases e : b1.1 <;> rw [e] at q o <;> first
          | exact absurd (show false = true from o) Bool.false_ne_true
          | exact absurd (show false = true from q) Bool.false_ne_true
          | (refine ⟨fun z => ?_, fun ts z => ?_⟩ <;> simp [toPy] at z)
    · rw [List.length_zip, ← len, Nat.min_self]; exact LINEs hl
    · intro b hb
      have := (plain_py 60 b.1 (hp _ (zm _ hb))).2
      omega
    · obtain ⟨ep, he'⟩ := PyProof.Rows.sortedAll_at s.heap its out.toArray
      have sp : (ds.zip vs).mergeSort (PySem.W.dataLe false fun b => toPy b.1) = (ds.zip vs).mergeSort (PySem.W.dataLe false fun b => toPy b.1) := rfl
      have perm := List.mergeSort_perm (ds.zip vs) (PySem.W.dataLe false fun b : D × V => toPy b.1)
      have rr : RepL Γ G α (((ds.zip vs).mergeSort (PySem.W.dataLe false fun b => toPy b.1)).map (·.1)) (((ds.zip vs).mergeSort (PySem.W.dataLe false fun b => toPy b.1)).map (·.2)) :=
        rep_zip fun b hb => zip_rep rl b (perm.mem_iff.mp hb)
      have e3 : ((ds.zip vs).mergeSort (PySem.W.dataLe false fun b => toPy b.1)).map (·.1) = sortD ds := by
        rw [sort_py hso, PySem.W.sort_maps (r := PySem.W.dataLe false fun b : D × V => toPy b.1) (s := PySem.W.dataLe false toPy) (fun b : D × V => b.1) fun a _ b _ => rfl]
        rw [List.map_fst_zip (by omega)]
      rw [e3] at rr
      have lo : (((ds.zip vs).mergeSort (PySem.W.dataLe false fun b => toPy b.1)).map (·.2)).length ≤ sizeLine := by
        rw [List.length_map, perm.length_eq, List.length_zip, ← len, Nat.min_self]; exact LINEs hl
      refine ⟨.ref _, upd H (s.heap.objs.size + 1) (.lst (((ds.zip vs).mergeSort (PySem.W.dataLe false fun b => toPy b.1)).map (·.2))), I.laid (t' := s.toks) (fun _ _ => PyProof.Rows.sortedAll_old) (Nat.le_succ _) ⟨lo, out, ep, each_vals oe, he'⟩, rfl, out_lst sm k (I.hok.fresh (Nat.le_succ _)) rr w⟩
  · rw [if_neg hs] at e2; cases e2
end
end MW
namespace MW
open PySem PySem.Spec PyProof.Rows L2
section
variable {X : Cx} {Γ : GX} {c : CL} {W : WX} {σ : L2.St} {ρ : List Sl} {G H G1 H1 H0 : Hp} {α α1 : List Addr} {μ μ1 : Mu} {pins : List (Addr × Obj)} {s : Shared} {Q : VK}
def InsLen (X : Cx) (Γ : GX) (c : CL) (W : WX) : Prop :=
  ∀ {σ : L2.St} {G H H0 : Hp} {α : List Addr} {μ : Mu} {pins : List (Addr × Obj)} {s : Shared} {d : D} {x : V} {u : Value} {cc : Nat} {fs : List D} {Q : VK}, content d μ = .ins cc fs → Inv X pins σ H s → Sim Γ G H α μ → Keep H0 H → DatR Γ G H α d x → RelV x u →
    Wn Γ W σ G H α (VlR Γ H0) (b1E c .len d (.ins cc fs) μ) Q → wpAny (model X.prog X.w) X.A (call (.builtin "len") [u]) (EP X pins σ Q) X.xe s
def B1.val : B1 → Value
  | .len => .builtin "len" | .sum => .builtin "sum" | .max => .builtin "max" | .min => .builtin "min" | .all => .builtin "all" | .any => .builtin "any" | .sorted => .builtin "sorted" | .abs => .builtin "abs"
  | .tuple => .type "tuple" | .list => .type "list" | .int => .type "int" | .str => .type "str" | .setlen => .none
def B1.nm : B1 → Str
  | .len => "len" | .sum => "sum" | .max => "max" | .min => "min" | .all => "all" | .any => "any" | .sorted => "sorted" | .abs => "abs"
  | .tuple => "tuple" | .list => "list" | .int => "int" | .str => "str" | .setlen => "len"
def B1.one : B1 → Bool
  | .setlen => false
  | _ => true
theorem b1_ok (F : Fit X Γ c W) (hc : X.calm = true) {o : B1} (h : o.one = true) : CallR X o.val (rB1 Γ o) := by
  cases o
  · exact b1_len F
  · exact b1_sum hc
  · exact b1_max hc
  · exact b1_min hc
  · exact b1_all hc
  · exact b1_any hc
  · exact b1_sorted F
  · exact b1_tuple
  · exact b1_list F hc
  · exact b1_int
  · exact b1_abs
  · exact b1_str
  · exact absurd h Bool.false_ne_true
theorem b1_boot {o : B1} (h : o.one = true) : bootBuiltins o.nm = some o.val ∧ o.nm ≠ "__name__" ∧ (o.nm == ("__debug__" : Str)) = false := by
  cases o <;> first | exact absurd h Bool.false_ne_true | exact ⟨by decide +kernel, by decide, by decide⟩
theorem b1E_ok (F : Fit X Γ c W) (hc : X.calm = true) (IL : InsLen X Γ c W) {o : B1} (h : o.one = true) {d : D} {x : V} {u : Value} (I : Inv X pins σ H s) (sm : Sim Γ G H α μ) (k : Keep H0 H) (hx : DatR Γ G H α d x) (rx : RelV x u) (w : Wn Γ W σ G H α (VlR Γ H0) (b1E c o d (content d μ) μ) Q) :
    wpAny (model X.prog X.w) X.A (call o.val [u]) (EP X pins σ Q) X.xe s := by
  by_cases hi : o = .len ∧ ∃ cc fs, content d μ = .ins cc fs
  · obtain ⟨rfl, cc, fs, e⟩ := hi
    rw [e] at w
    exact IL e I sm k hx rx w
  · have e : b1E c o d (content d μ) μ = MW.opt (b1D o (content d μ)) μ := by
      generalize content d μ = p at hi
      unfold b1E
      cases o <;> first | rfl | (cases p <;> first | rfl | (exfalso; exact hi ⟨rfl, _, _, rfl⟩))
    rw [e] at w
    obtain ⟨z, e2, w2⟩ := w.opt0
    exact b1_ok F hc h pins s σ H [x] [u] Q I (.cons rx .nil) ⟨x, G, α, μ, H0, _, z, rfl, sm, k, hx.look sm, e2, w2⟩
theorem se_b1 (F : Fit X Γ c W) (hc : X.calm = true) (IL : InsLen X Γ c W) {o : B1} (h : o.one = true) {a : Expr} {ta : E} {p pos : Pos} (hg : Gl X o.nm) (hm : X.mg o.nm = none) (h1 : SE X Γ c W a ta) (hn : ∀ x p, a ≠ .Starred x p) : SE X Γ c W (.Call (.Name o.nm p) [a] [] pos) (.b1 o ta) := by
  refine ⟨fun pins s σ H Q I ⟨G, α, ρ, μ, sm, en, w⟩ => ?_⟩
  obtain ⟨b1, b2, b3⟩ := b1_boot h
  refine wpAny_Call_Name_kw (ld_blt I hg hm b1 ?_ b2 b3)
  have na := star_ne (es := []) (env := X.env) hn
  have key : wpAny (model X.prog X.w) X.A (eval a X.env) (fun v s1 => wpAny (model X.prog X.w) X.A (call o.val [v]) (EP X pins σ Q) X.xe s1) X.xe s :=
    thn (h1.run pins s σ H _ I (one (c := c) sm en w)) fun v s1 ⟨x, H1, I1, r1, xa, G1, α1, μ1, k1, g1, sm1, en1, d1, w1⟩ => b1E_ok F hc IL h I1 sm1 k1 d1.datR r1 w1
  cases hv : o.val with
  | builtin id =>
    rw [hv] at key
    exact PyProof.Rows.callWith_builtin1 (PyProof.Rows.args_cons (thn key fun v s1 q => PyProof.Rows.args_nil q) na) na rfl
  | type T =>
    rw [hv] at key
    exact PyProof.Rows.callWith_type1 (PyProof.Rows.args_cons (thn key fun v s1 q => PyProof.Rows.args_nil q) na) na rfl
  | _ => cases o <;> first | exact absurd h Bool.false_ne_true | cases hv
theorem se_setlen (hc : X.calm = true) {a : Expr} {ta : E} {p p2 q pos : Pos} (hg : Gl X "len") (hm : X.mg "len" = none) (hg2 : Gl X "set") (hm2 : X.mg "set" = none) (h1 : SE X Γ c W a ta) (hn : ∀ x p, a ≠ .Starred x p) :
    SE X Γ c W (.Call (.Name "len" p) [.Call (.Name "set" p2) [a] [] q] [] pos) (.b1 .setlen ta) := by
  refine ⟨fun pins s σ H Q I ⟨G, α, ρ, μ, sm, en, w⟩ => ?_⟩
  have na := star_ne (es := []) (env := X.env) hn
  refine Call_ (ld_blt I hg hm boot_len ?_)
  refine PyProof.Rows.callWith_builtin1 (PyProof.Rows.args_cons ?_ rfl) rfl rfl
  refine Call_ (ld_blt I hg2 hm2 PyProof.Rows.boot_set ?_)
  refine PyProof.Rows.callWith_type1 (PyProof.Rows.args_cons (thn (h1.run pins s σ H _ I (one (c := c) sm en w)) fun v s1 ⟨x, H1, I1, r1, xa, G1, α1, μ1, k1, g1, sm1, en1, d1, w1⟩ => PyProof.Rows.args_nil ?_) na) na rfl
  have w2 : Wn Γ W σ G1 H1 α1 (VlR Γ H) (MW.opt (b1D .setlen (content xa.d μ1)) μ1) Q := by
    have e : b1E c .setlen xa.d (content xa.d μ1) μ1 = MW.opt (b1D .setlen (content xa.d μ1)) μ1 := rfl
    rw [← e]; exact w1
  obtain ⟨z, e2, w3⟩ := w2.opt0
  simp only [b1D, Option.bind_eq_some_iff] at e2
  obtain ⟨is, e3, e4⟩ := e2
  by_cases hl : is.length ≤ 4000
  · rw [if_pos hl] at e4
    cases e4
    obtain ⟨l, rfl, h2⟩ := ints_of sm1 (d1.datR.look sm1) e3
    cases r1
    obtain ⟨its, r, pl, hz⟩ := I1.list (SqL.of h2)
    have hlen : its.toArray.size = is.length := by rw [List.size_toArray, ← r.length, List.length_map]
    refine call_set_list (I1.ok.hd hc) pl.isList (by simpa using intsAre_of r) (by rw [hlen]; unfold scanBound; omega) fun h' tk hS hk => ?_
    refine PyProof.Rows.args_nil ?_
    rw [hlen, met_first] at hS
    obtain ⟨o, es, ep, t, ho, hex, hd, _, _, _, hf, hn⟩ := hS
    have I2 : Inv X pins σ H1 { s1 with heap := h', toks := tk } := I1.kept fun b o e => hk b o (Heap.lt_size e) e
    have ml : ∀ (js acc : List Int), (met acc js).length ≤ acc.length + js.length := fun js => by
      induction js with
      | nil => intro acc; simp [met]
      | cons j js ih =>
        intro acc
        unfold met
        by_cases hq : acc.any (· == j) = true
        · rw [if_pos hq]
          have := ih acc
          rw [List.length_cons]; omega
        · rw [if_neg hq]
          have := ih (acc ++ [j])
          rw [List.length_append, List.length_singleton] at this
          rw [List.length_cons]; omega
    have m2 := ml is []
    exact call_len_set ho hex hd hf (by rw [hn]; simp at m2; omega) ⟨.int _, H1, I2.tok _, ⟨_, by rw [hn]⟩, w3.pur sm1 (by simp only [VlR, Rep])⟩
  · rw [if_neg hl] at e4; cases e4
end
end MW
namespace MW
open PySem PySem.Spec PyProof.Rows L2
section
variable {X : Cx} {Γ : GX} {c : CL} {W : WX} {σ : L2.St} {ρ : List Sl} {G H G1 H1 H0 : Hp} {α α1 : List Addr} {μ μ1 : Mu} {pins : List (Addr × Obj)} {s : Shared} {Q : VK}
theorem idx_first : ∀ (xs : List D) (q : D) (n m j : Nat), plain 60 q = true → plains m xs = true → idxOf q n xs = some j → ∃ i, j = n + i ∧ (∃ z, (toPys xs)[i]? = some z ∧ PyData.eqv z (toPy q) = true) ∧ ∀ k z, k < i → (toPys xs)[k]? = some z → PyData.eqv z (toPy q) = false
  | [], q, n, m, j, _, _, e => by simp [idxOf] at e
  | x :: xs, q, n, 0, j, _, h, e => by simp [plains] at h
  | x :: xs, q, n, m + 1, j, h1, h2, e => by
    simp only [plains, Bool.and_eq_true] at h2
    have eq := eq_py m 60 x q h2.1 h1
    simp only [idxOf] at e
    by_cases c : eqD x q = true
    · rw [if_pos c] at e
      cases e
      exact ⟨0, rfl, ⟨toPy x, rfl, by rw [eq]; exact c⟩, fun k z hk => by omega⟩
    · rw [if_neg c] at e
      obtain ⟨i, rfl, ⟨z, hz, ez⟩, f⟩ := idx_first xs q (n + 1) (m + 1) j h1 h2.2 e
      refine ⟨i + 1, by omega, ⟨z, hz, ez⟩, fun k z hk hz => ?_⟩
      cases k with
      | zero =>
        cases hz
        rw [eq]
        exact Bool.eq_false_iff.mpr c
      | succ k => exact f k z (by omega) hz
structure Mth (X : Cx) (o : Expr) (m : Str) (apos cpos : Pos) : Prop where
  base : attributeBase o m X.env (eval o X.env) = eval o X.env
  line : (apos.endLine == cpos.line) = true
theorem one_arg {e : Expr} {env : Env} {cpos : Pos} (hn : ∀ x p, e ≠ .Starred x p) : backTo cpos (starEach [e] env) = [(false, eval e env)] := by
  rw [star_ne hn]; rfl
theorem few1 {e : Expr} {env : Env} {cpos : Pos} (hn : ∀ x p, e ≠ .Starred x p) : ((backTo cpos (starEach [e] env)).all (fun x => !x.1) && (backToKw cpos (keywordEach [] env)).all (fun x => x.1.isSome)
      && decide (([e] : List Expr).length + ([] : List Keyword).length + (if ([] : List Keyword).isEmpty then 0 else 1) < 30)) = true := by
  rw [one_arg hn]; rfl
theorem se_index (F : Fit X Γ c W) {o e : Expr} {to te : E} {apos cpos : Pos} (h1 : SE X Γ c W o to) (h2 : SE X Γ c W e te) (m : Mth X o "index" apos cpos) (hn : ∀ x p, e ≠ .Starred x p) : SE X Γ c W (.Call (.Attribute o "index" apos) [e] [] cpos) (.index to te) := by
  have hu := F.hu
  refine imp (pe_bm PySem.F.plainAttrs_list PySem.F.slot_list_index PySem.F.type_list_index (mt_indexD (by omega)) h1 (pa_cons h2 pa_nil (star_ne hn)) m.base (few1 hn) m.line (star_ne hn) rfl) fun σ H Q ⟨G, α, ρ, μ, sm, en, w⟩ => ?_
  refine tE_mono0 (one (c := c) sm en w) fun v H1 ⟨x, G1, α1, μ1, k1, g1, sm1, en1, r1, w1⟩ => ?_
  have dr := r1.datR
  generalize x.d = d at dr w1
  cases d <;> first | exact w1.elim | skip
  rename_i xs
  have dr1 : RdR Γ G1 H1 α1 (.lst xs) v := dr.look sm1
  obtain ⟨a, vs, rfl, e1, rl⟩ := dr1.lst sm1
  refine ⟨.inl ⟨rfl, vs, SqL.of e1⟩, ?_⟩
  refine tE_mono0 (one (c := c) sm1 en1 w1) fun v2 H2 ⟨y, G2, α2, μ2, k2, g2, sm2, en2, r2, w2⟩ => ?_
  have w3 : Wn Γ W σ G2 H2 α2 (VlR Γ H) ((if plain64 (content y.d μ2) && plain64 (.lst xs) then MW.bnd (MW.opt (idxOf (content y.d μ2) 0 xs)) fun j => MW.pur (.dat (.int j)) else MW.bad) μ2) Q := w2
  by_cases hp : (plain64 (content y.d μ2) && plain64 (.lst xs)) = true
  · rw [if_pos hp] at w3
    rw [Bool.and_eq_true] at hp
    obtain ⟨j, ej, w4⟩ := w3.opt
    obtain ⟨i, rfl, ⟨z, hz, ez⟩, f⟩ := idx_first xs _ 0 60 j hp.1 (plain64_lst hp.2) ej
    have dx := RdR.dp (K := X.K) sm2 hp.2 ((dr.grow g2).look sm2)
    have dy := RdR.dp (K := X.K) sm2 hp.1 (r2.datR.look sm2)
    rw [Nat.zero_add] at w4
    exact ⟨a, v2, toPy (content y.d μ2), toPys xs, i, z, rfl, rfl, dx, dy, shaped_of hp.2, shaped_of hp.1, hz, ez, fun k z hk hz => f k z hk hz, w4.pur sm2 (by simp only [VlR, Rep])⟩
  · rw [if_neg hp] at w3; exact w3.elim
def Ty.val : Ty → Option (Str × String)
  | .int => some ("int", "int") | .bool => some ("bool", "bool") | .str => some ("str", "str") | .tuple => some ("tuple", "tuple")
  | _ => none
def tyN : D → Option String
  | .non => some "NoneType" | .bl _ => some "bool" | .int _ => some "int" | .str _ => some "str" | .tup _ => some "tuple" | .lst _ => some "list"
  | _ => none
theorem tyX_of (sm : Sim Γ G H α μ) {K : PySem.W.Frag} {d : D} {v : V} {t : String} (h : RdR Γ G H α d v) (e : tyN d = some t) : TyX K H v (.type t) := by
  cases d <;> simp only [tyN, reduceCtorEq, Option.some.injEq] at e <;> subst e
  · have q := h.non; subst q; exact .base .non
  · have q := h.bl; subst q; exact .base (.bl _)
  · have q := h.int; subst q; exact .base (.int _)
  · have q := h.str; subst q; exact .base (.str _)
  · obtain ⟨a, vs, rfl, h1, _⟩ := h.tup sm; exact .base (.tup h1)
  · obtain ⟨a, vs, rfl, h1, _⟩ := h.lst sm; exact .base (.lst h1)
def isiB : Ty → D → Option Bool
  | .int, d => some (match d with | .int _ => true | .bl _ => true | _ => false)
  | .bool, d => some (match d with | .bl _ => true | _ => false)
  | .str, d => some (match d with | .str _ => true | _ => false)
  | .tuple, d => some (match d with | .tup _ => true | _ => false)
  | _, _ => none
theorem kit_all : ∀ t ∈ ["NoneType", "bool", "int", "str", "tuple", "list"], ∀ T ∈ ["int", "bool", "str", "tuple"], kitB t T = some (t == T || (t == "bool" && T == "int")) := by decide +kernel
theorem isi_kit {K : PySem.W.Frag} {T : Ty} {n : Str} {m t : String} {d : D} {b : Bool} (hT : T.val = some (n, m)) (ht : tyN d = some t) (e : isiD T d = some b) : PySem.W.kitOne K (.type t) (.type m) = some b := by
  have mt : t ∈ ["NoneType", "bool", "int", "str", "tuple", "list"] := by
    cases d <;> simp only [tyN, reduceCtorEq, Option.some.injEq] at ht <;> subst ht <;> decide
  have mT : m ∈ ["int", "bool", "str", "tuple"] := by
    cases T <;> simp only [Ty.val, reduceCtorEq, Option.some.injEq, Prod.mk.injEq] at hT <;> obtain ⟨_, rfl⟩ := hT <;> decide
  rw [kit_ty (kit_all t mt m mT)]
  cases T <;> simp only [Ty.val, reduceCtorEq, Option.some.injEq, Prod.mk.injEq] at hT <;> obtain ⟨_, rfl⟩ := hT <;> cases d <;> simp only [tyN, reduceCtorEq, Option.some.injEq] at ht <;> subst ht <;> simp only [isiD, Option.some.injEq] at e <;> subst e <;> decide
theorem boot_ty {T : Ty} {n : Str} {m : String} (hT : T.val = some (n, m)) : bootBuiltins n = some (.type m) ∧ n ≠ "__name__" ∧ (n == ("__debug__" : Str)) = false ∧ (n == ("__classdict__" : Str)) = false := by
  cases T <;> simp only [Ty.val, reduceCtorEq, Option.some.injEq, Prod.mk.injEq] at hT <;> obtain ⟨rfl, rfl⟩ := hT <;> exact ⟨by decide +kernel, by decide, by decide, by decide⟩
theorem noRef_ty {d : D} (h : noRef d = true) : (∃ t, tyN d = some t) ∨ ∃ cc fs, d = .ins cc fs := by
  cases d <;> first
    | exact .inl ⟨_, rfl⟩
    | exact .inr ⟨_, _, rfl⟩
    | exact absurd (show false = true from h) Bool.false_ne_true
def InsIsi (X : Cx) (Γ : GX) : Prop :=
  ∀ {G H : Hp} {α : List Addr} {μ : Mu} {cc : Nat} {fs : List D} {v : V} {m : String}, cc < Γ.flds.length → Sim Γ G H α μ → RdR Γ G H α (.ins cc fs) v → m ∈ ["int", "bool", "str", "tuple"] → ∃ t, TyX X.K H v t ∧ PySem.W.kitOne X.K t (.type m) = some false
theorem se_isi (F : Fit X Γ c W) (II : InsIsi X Γ) {a : Expr} {ta : E} {T : Ty} {n : Str} {m : String} {p q pos : Pos} (hT : T.val = some (n, m)) (hg : Gl X "isinstance") (hm : X.mg "isinstance" = none) (hg2 : Gl X n) (hm2 : X.mg n = none) (h1 : SE X Γ c W a ta) (hn : ∀ x p, a ≠ .Starred x p) :
    SE X Γ c W (.Call (.Name "isinstance" p) [a, .Name n q] [] pos) (.isi ta T) := by
  obtain ⟨b1, b2, b3, b4⟩ := boot_ty hT
  have e2 : PE X (.Name n q) (tC (.ty m)) := pe_bltn hg2 hm2 b1 rfl b2 b3
  refine imp (pe_callB call_isi hg hm (by decide +kernel) (pa_cons h1 (pa_cons e2 pa_nil rfl) (star_ne hn)) (by decide) (by decide) (star_ne hn) rfl) fun σ H Q ⟨G, α, ρ, μ, sm, en, w⟩ => ?_
  refine tE_mono0 (one (c := c) sm en w) fun v H1 ⟨x, G1, α1, μ1, k1, g1, sm1, en1, r1, w1⟩ => ?_
  show rIsi X.K [v, .ty m] H1 Q
  have dr := r1.datR
  generalize x.d = d at dr w1
  by_cases hr' : (noRef d && insOk c d) = true
  · rw [if_pos hr'] at w1
    rw [Bool.and_eq_true] at hr'
    obtain ⟨hr, hin⟩ := hr'
    obtain ⟨b, eb, w2⟩ := w1.opt
    have ed : content d μ1 = d := by cases d <;> first | rfl | exact absurd (show false = true from hr) Bool.false_ne_true
    have dl := dr.look sm1
    rw [ed] at dl
    have q := w2.pur sm1 (b := V.bl b) (by simp only [VlR, Rep])
    rcases noRef_ty hr with ⟨t, ht⟩ | ⟨cc, fs, rfl⟩
    · exact ⟨v, .ty m, .type t, .type m, b, rfl, .ty m, tyX_of sm1 dl ht, isi_kit hT ht eb, q⟩
    · have mT : m ∈ ["int", "bool", "str", "tuple"] := by
        cases T <;> simp only [Ty.val, reduceCtorEq, Option.some.injEq, Prod.mk.injEq] at hT <;> obtain ⟨_, rfl⟩ := hT <;> decide
      have eb2 : b = false := by
        cases T <;> simp only [Ty.val, reduceCtorEq] at hT <;> simp only [isiD, Option.some.injEq] at eb <;> exact eb.symm
      subst eb2
      have hlt : cc < Γ.flds.length := by rw [← F.flds]; exact of_decide_eq_true hin
      obtain ⟨t, h3, h4⟩ := II hlt sm1 dl mT
      exact ⟨v, .ty m, t, .type m, false, rfl, .ty m, h3, h4, q⟩
  · rw [if_neg hr'] at w1; exact w1.elim
end
end MW
namespace MW
open PySem PySem.Spec PyProof.Rows L2
section
variable {X : Cx} {Γ : GX} {c : CL} {W : WX} {σ : L2.St} {ρ : List Sl} {G H G1 H1 H0 : Hp} {α α1 : List Addr} {μ μ1 : Mu} {pins : List (Addr × Obj)} {s : Shared} {Q : VK}
def spF (Γ : GX) (cl : List D → M Vl) (np : Nat) : Sp := fun vs H Q E => vs.length = np ∧ ∃ G α μ ds, Sim Γ G H α μ ∧ RepL Γ G α ds vs ∧ Wn Γ (fun cc d _ H' => E cc d H') [] G H α (VlR Γ H) (cl ds μ) Q
theorem Wn.turnW {A B : Type} {R : Hp → Hp → List Addr → A → B → Prop} {r : Res A} {Q : B → Hp → Prop} (h : Wn Γ W σ G H α R r Q) : Wn Γ (fun cc d _ H' => W cc d σ H') [] G H α R r Q := by
  cases r with
  | ok a m => exact h
  | exc e d m => exact h
  | bad => exact h
structure DefOk (X : Cx) (Γ : GX) (c : CL) (f : Nat) (x : Str) (np : Nat) : Prop where
  ex : ∃ (k : Nat) (fa : Addr) (fd : FuncData) (ps : List Str), X.mg x = some (.ref fa) ∧ PySem.W.keepIn X.K (.ref fa) = true ∧ Room k X.A ∧ Binds X.K fd ps [] ∧ FnOk X.prog X.w X.K X.mg X.base (L2.CX X.prog X.w) k fa fd ps (spF Γ (c.call f) np)
  len : ∀ ds m, ds.length ≠ np → c.call f ds m = .bad
theorem DefOk.long {f np : Nat} {x : Str} (hd : DefOk X Γ c f x np) {A B : Type} {R : Hp → Hp → List Addr → Vl → B → Prop} {Q : B → Hp → Prop} {ds : List D} (w : Wn Γ W σ G H α R (c.call f ds μ) Q) : ds.length = np := by
  by_cases h : ds.length = np
  · exact h
  · rw [hd.len ds μ h] at w
    exact w.elim
theorem se_call (tk : Takes X W) {f np : Nat} {x : Str} {p pos : Pos} {e : Expr} {r : List Expr} {ts : Es} (hd : DefOk X Γ c f x np) (hg : Gl X x) (hdb : (x == ("__debug__" : Str)) = false) (h : SA X Γ c W (e :: r) ts) (hn : ∀ y q, e ≠ .Starred y q) (hpl : (backTo pos (starEach r X.env)).any (·.1) = false) :
    SE X Γ c W (.Call (.Name x p) (e :: r) [] pos) (.call f ts) := by
  obtain ⟨k, fa, fd, ps, hm, hk, hr, hb, F⟩ := hd.ex
  refine ⟨fun pins s σ H Q I ⟨G, α, ρ, μ, sm, en, w⟩ => ?_⟩
  refine wpAny_Call_Name_kw (ld_glob I hg hm ?_ hdb)
  refine PySem.W.callWith_K (h₀ := X.base) I.ok.mod.kin hk (thn (h.run pos pins s σ H _ I (many (c := c) sm en w)) fun us s1 ⟨vs, H1, I1, rv, ds, G1, α1, μ1, k1, g1, sm1, en1, r1, w1⟩ => ⟨I1.kIn, ?_⟩) (star_ne hn) hpl
  have ln := hd.long (A := Unit) w1
  exact run_fnS (sp := spF Γ (c.call f) np) (E := WE W) F hr hb (passAt tk σ) I1 rv ⟨by rw [← r1.length]; exact ln, G1, α1, μ1, ds, sm1, r1, (Wn.base k1 w1).turnW⟩
theorem se_call0 (tk : Takes X W) {f np : Nat} {x : Str} {p pos : Pos} (hd : DefOk X Γ c f x np) (hg : Gl X x) (hdb : (x == ("__debug__" : Str)) = false) :
    SE X Γ c W (.Call (.Name x p) [] [] pos) (.call f .nil) := by
  obtain ⟨k, fa, fd, ps, hm, hk, hr, hb, F⟩ := hd.ex
  refine ⟨fun pins s σ H Q I ⟨G, α, ρ, μ, sm, en, w⟩ => ?_⟩
  refine wpAny_Call_Name_kw (ld_glob I hg hm ?_ hdb)
  have w1 : Wn Γ W σ G H α (VlR Γ H) (c.call f [] μ) Q := w
  have ln := hd.long (A := Unit) w1
  exact PySem.W.callWith_K0 I.kIn hk (run_fnS (us := []) (vs := []) (sp := spF Γ (c.call f) np) (E := WE W) F hr hb (passAt tk σ) I .nil ⟨ln, G, α, μ, [], sm, RepL.nil, w1.turnW⟩)
end
end MW
namespace MW
open PySem PySem.Spec PyProof.Rows L2
structure Sta (Γ : GX) (Gb Hb : Hp) (αb : List Addr) (G H : Hp) (α : List Addr) (ρ : List Sl) (σ : L2.St) (μ : Mu) : Prop where
  gr : Gr Gb Hb αb G H α
  kp : Keep Hb H
  sm : Sim Γ G H α μ
  en : EnvR Γ G H α ρ σ
  ce : ∀ (i : Nat) (d : D) (p : Addr), ρ[i]? = some (.cel d) → σ[i]? = some (some (.ref p)) → Hb p = none
section
variable {X : Cx} {Γ : GX} {c : CL} {W : WX} {σ : L2.St} {ρ ρ' : List Sl} {G H G1 H1 H0 Gb Hb : Hp} {α α1 αb : List Addr} {μ μ1 : Mu} {pins : List (Addr × Obj)} {s : Shared} {Q : VK}
theorem Sta.grow (st : Sta Γ Gb Hb αb G H α ρ σ μ) (g : Gr G H α G1 H1 α1) (s1 : Sim Γ G1 H1 α1 μ1) : Sta Γ Gb Hb αb G1 H1 α1 ρ σ μ1 :=
  ⟨st.gr.trans g, st.kp.trans (g.there st.sm s1), s1, st.en.grow g, st.ce⟩
theorem Sta.free (sm : Sim Γ G H α μ) (en : EnvR Γ G H α ρ σ) : Sta Γ (fun _ => none) (fun _ => none) [] G H α ρ σ μ := by
  refine ⟨⟨fun a o e => ?_, ⟨α, rfl⟩, fun a o e => ?_⟩, fun a o e => ?_, sm, en, fun _ _ _ _ _ => rfl⟩
  all_goals cases (show (none : Option HO) = some o from e)
theorem EnvR.put {i : Nat} {x : Sl} {v : V} (en : EnvR Γ G H α ρ σ) (hx : SlR Γ G H α x (some v)) (hd : ∀ d, x = Sl.cel d → ∀ p, v = V.ref p → ∀ (j : Nat) (e : D), ρ[j]? = some (Sl.cel e) → σ[j]? = some (some (V.ref p)) → False) : EnvR Γ G H α (ρ.set i x) (σ.set i (some v)) := by
  refine ⟨by rw [List.length_set, List.length_set]; exact en.len, fun j y o e1 e2 => ?_, fun j k d e p hne e1 e2 e3 e4 => ?_⟩
  · by_cases hj : i = j
    · subst hj
      rw [List.getElem?_set] at e1 e2
      simp only [if_true] at e1 e2
      split at e1
      · split at e2
        · cases e1; cases e2; exact hx
        · cases e2
      · cases e1
    · rw [List.getElem?_set_ne hj] at e1 e2
      exact en.at_ j y o e1 e2
  · by_cases hj : i = j
    · subst hj
      rw [List.getElem?_set_ne hne] at e2 e4
      rw [List.getElem?_set] at e1 e3
      simp only [if_true] at e1 e3
      split at e1
      · split at e3
        · cases e3
          exact hd d (Option.some.inj e1) p rfl k e e2 e4
        · cases e3
      · cases e1
    · rw [List.getElem?_set_ne hj] at e1 e3
      by_cases hk : i = k
      · subst hk
        rw [List.getElem?_set] at e2 e4
        simp only [if_true] at e2 e4
        split at e2
        · split at e4
          · cases e4
            exact hd e (Option.some.inj e2) p rfl j d e1 e3
          · cases e4
        · cases e2
      · rw [List.getElem?_set_ne hk] at e2 e4
        exact en.dis j k d e p hne e1 e2 e3 e4
theorem Sta.put {i : Nat} {x : Sl} {v : V} (st : Sta Γ Gb Hb αb G H α ρ σ μ) (hx : SlR Γ G H α x (some v)) (hd : ∀ d, x = Sl.cel d → ∀ p, v = V.ref p → (∀ (j : Nat) (e : D), ρ[j]? = some (Sl.cel e) → σ[j]? = some (some (V.ref p)) → False) ∧ Hb p = none) : Sta Γ Gb Hb αb G H α (ρ.set i x) (σ.set i (some v)) μ := by
  refine ⟨st.gr, st.kp, st.sm, st.en.put hx fun d e p ep => (hd d e p ep).1, fun j d p e1 e2 => ?_⟩
  by_cases hj : i = j
  · subst hj
    rw [List.getElem?_set] at e1 e2
    simp only [if_true] at e1 e2
    split at e1
    · split at e2
      · cases e2
        exact (hd d (Option.some.inj e1) p rfl).2
      · cases e2
    · cases e1
  · rw [List.getElem?_set_ne hj] at e1 e2
    exact st.ce j d p e1 e2
def NewR (Γ : GX) (Hb : Hp) (G H : Hp) (α : List Addr) (ρ : List Sl) (σ : L2.St) (x : Vl) (v : V) : Prop :=
  VlR Γ Hb G H α x v ∧ ∀ d, x = Vl.frs d → ∀ p, v = V.ref p → ∀ (j : Nat) (e : D), ρ[j]? = some (Sl.cel e) → σ[j]? = some (some (V.ref p)) → False
def OutS (own : List Nat) (σ σ' : L2.St) : Prop := σ'.length = σ.length ∧ ∀ j, j ∉ own → σ'[j]? = σ[j]?
theorem OutS.set {i : Nat} {o : Option V} : OutS [i] σ (σ.set i o) := ⟨List.length_set, fun j hj => List.getElem?_set_ne (fun e => hj (by rw [e]; simp))⟩
theorem OutS.trans {a b : List Nat} {σ1 σ2 σ3 : L2.St} (h : OutS a σ1 σ2) (k : OutS b σ2 σ3) : OutS (a ++ b) σ1 σ3 :=
  ⟨k.1.trans h.1, fun j hj => by rw [List.mem_append, not_or] at hj; rw [k.2 j hj.2, h.2 j hj.1]⟩
def gT (Γ : GX) (t : Tg) : TG := fun v σ H Q => ∃ Gb Hb αb G α ρ μ x ρ', Sta Γ Gb Hb αb G H α ρ σ μ ∧ NewR Γ Hb G H α ρ σ x v ∧ asgT t x ρ = some ρ' ∧ ∀ σ', Sta Γ Gb Hb αb G H α ρ' σ' μ → OutS (tgOwn t) σ σ' → Q σ' H
def gTs (Γ : GX) (ts : List Tg) : TGs := fun vs σ H Q => ∃ Gb Hb αb G α ρ μ xs ρ', Sta Γ Gb Hb αb G H α ρ σ μ ∧ RepL Γ G α xs vs ∧ asgT.asgTs ts xs ρ = some ρ' ∧ ∀ σ', Sta Γ Gb Hb αb G H α ρ' σ' μ → OutS (tgOwn.tgOwns ts) σ σ' → Q σ' H
theorem PG.imp {X : Cx} {e : Expr} {t t' : TG} (h : PG X e t) (k : ∀ v σ H Q, t' v σ H Q → t v σ H Q) : PG X e t' := ⟨fun pins s σ H v u Q I r q => h.run pins s σ H v u Q I r (k v σ H Q q)⟩
theorem PGs.imp {X : Cx} {e : List Expr} {t t' : TGs} (h : PGs X e t) (k : ∀ v σ H Q, t' v σ H Q → t v σ H Q) : PGs X e t' := ⟨fun pins s σ H v u Q I r q => h.run pins s σ H v u Q I r (k v σ H Q q)⟩
theorem sg_name {i : Nat} {x : Str} {pos : Pos} (hN : X.N.Nodup) (hi : X.N[i]? = some x) (hx : Loc X.env.scope x) (hf : X.fn x = true ∨ X.env.scope.names.lookup x = some .local) : PG X (.Name x pos) (gT Γ (.nm i)) := by
  refine PG.imp (pg_name hN hi hx hf) fun v σ H Q ⟨Gb, Hb, αb, G, α, ρ, μ, x, ρ', st, hn, ha, q⟩ => ?_
  cases x with
  | dat d =>
    simp only [asgT] at ha
    split at ha
    · cases ha
      exact q _ (st.put (i := i) (x := .dat d) ⟨v, rfl, hn.1⟩ fun d e => by cases e) OutS.set
    · cases ha
  | frs d =>
    simp only [asgT] at ha
    split at ha
    · cases ha
      obtain ⟨⟨p, rfl, gp, np, ow, h0, hd⟩, ap⟩ := hn
      exact q _ (st.put (i := i) (x := .cel d) ⟨p, rfl, gp, np, ow, hd⟩ fun d' e p' ep => by
        cases e; cases ep
        exact ⟨ap d rfl p rfl, h0⟩) OutS.set
    · cases ha
  | bor d => simp [asgT] at ha
theorem sgs_nil : PGs X [] (gTs Γ []) := by
  refine PGs.imp pgs_nil fun vs σ H Q ⟨Gb, Hb, αb, G, α, ρ, μ, xs, ρ', st, r, ha, q⟩ => ?_
  cases xs with
  | nil =>
    simp only [RepL] at r
    simp only [asgT.asgTs, Option.some.injEq] at ha
    subst ha
    exact ⟨r, q σ st ⟨rfl, fun _ _ => rfl⟩⟩
  | cons x xs => simp [asgT.asgTs] at ha
theorem sgs_cons {e : Expr} {es : List Expr} {t : Tg} {ts : List Tg} (h1 : PG X e (gT Γ t)) (h2 : PGs X es (gTs Γ ts)) (hs : (assignEach (e :: es) X.env).map (·.2) = assign e X.env :: (assignEach es X.env).map (·.2)) : PGs X (e :: es) (gTs Γ (t :: ts)) := by
  refine PGs.imp (pgs_cons h1 h2 hs) fun vs σ H Q ⟨Gb, Hb, αb, G, α, ρ, μ, xs, ρ', st, r, ha, q⟩ => ?_
  cases xs with
  | nil => simp [asgT.asgTs] at ha
  | cons x xs =>
    simp only [RepL] at r
    obtain ⟨v, vr, rfl, r1, r2⟩ := r
    simp only [asgT.asgTs] at ha
    obtain ⟨ρ1, ha1, ha2⟩ := Option.bind_eq_some_iff.mp ha
    exact ⟨v, vr, rfl, Gb, Hb, αb, G, α, ρ, μ, .dat x, ρ1, st, ⟨r1, fun d e => by cases e⟩, ha1, fun σ1 st1 o1 => ⟨Gb, Hb, αb, G, α, ρ1, μ, xs, ρ', st1, r2, ha2, fun σ2 st2 o2 => q σ2 st2 (o1.trans o2)⟩⟩
theorem asgTs_len : ∀ {ts : List Tg} {xs : List D} {ρ ρ' : List Sl}, asgT.asgTs ts xs ρ = some ρ' → xs.length = ts.length
  | [], [], _, _, _ => rfl
  | [], _ :: _, _, _, h => by simp [asgT.asgTs] at h
  | _ :: _, [], _, _, h => by simp [asgT.asgTs] at h
  | t :: ts, x :: xs, _, _, h => by
    simp only [asgT.asgTs] at h
    obtain ⟨ρ1, _, h2⟩ := Option.bind_eq_some_iff.mp h
    simp [asgTs_len h2]
theorem sg_tup {es : List Expr} {k : Nat} {pos : Pos} {ts : List Tg} (hc : X.calm = true) (h : PGs X es (gTs Γ ts)) (hn : (assignEach es X.env).length = ts.length) (hst : (assignEach es X.env).findIdx? (·.1) = none) : PG X (.Tuple es k pos) (gT Γ (.tp ts)) := by
  refine PG.imp (pg_tup hc h hn hst) fun v σ H Q ⟨Gb, Hb, αb, G, α, ρ, μ, x, ρ', st, hn', ha, q⟩ => ?_
  have key : ∀ d, x.fz = some d → ∃ xs, d = D.tup xs ∧ asgT.asgTs ts xs ρ = some ρ' := fun d e => by
    simp only [asgT] at ha
    rw [e] at ha
    cases d <;> first | (cases ha; done) | exact ⟨_, rfl, ha⟩
  cases x with
  | dat d =>
    obtain ⟨xs, rfl, ha'⟩ := key d rfl
    have r := hn'.1
    simp only [VlR, Rep] at r
    obtain ⟨a, vs, rfl, g, rl⟩ := r
    exact ⟨a, vs, rfl, SqT.of (st.sm.sub _ _ g), by rw [← rl.length]; exact asgTs_len ha', Gb, Hb, αb, G, α, ρ, μ, xs, ρ', st, rl, ha', q⟩
  | frs d =>
    obtain ⟨xs, rfl, ha'⟩ := key d rfl
    obtain ⟨⟨p, _, _, _, ow, _⟩, _⟩ := hn'
    exact ow.elim
  | bor d => simp [asgT, Vl.fz] at ha
end
end MW
namespace MW
open PySem PySem.Spec PyProof.Rows L2
def ItR (Γ : GX) (G H : Hp) (α : List Addr) (xs : List D) (J : L2.It) : Prop := ∀ (G' H' : Hp) (α' : List Addr) (μ' : Mu), Le G G' → Pre α α' → Sim Γ G' H' α' μ' → ∀ i : Nat,
  (i < xs.length → J.go i H') ∧ (xs.length ≤ i → J.stop i H') ∧ ∀ x H'', J.yld i H' x H'' → ∀ d, xs[i]? = some d → ∃ G'', Gr G' H' α' G'' H'' α' ∧ Sim Γ G'' H'' α' μ' ∧ Rep Γ G'' α' d x
def tI (Γ : GX) (c : CL) (W : WX) (t : It) : TI := fun σ H R => ∃ G α ρ μ, Sim Γ G H α μ ∧ EnvR Γ G H α ρ σ ∧ Wn Γ W σ G H α (ItR Γ) (evi c ρ t μ) R
section
variable {X : Cx} {Γ : GX} {c : CL} {W : WX} {σ : L2.St} {ρ ρ' : List Sl} {G H G1 H1 H0 Gb Hb : Hp} {α α1 αb : List Addr} {μ μ1 : Mu} {pins : List (Addr × Obj)} {s : Shared} {tg : Expr}
theorem it_lst {K : PySem.W.Frag} {a : Addr} {xs : List D} {vs : List V} (g : G a = some (.lst vs)) (r : RepL Γ G α xs vs) : ItR Γ G H α xs (Itl K a) := by
  intro G' H' α' μ' le pre sm i
  have g' := le.eq g (fun _ z => by cases z)
  have sq : SqL K H' a vs := SqL.of (sm.sub _ _ g')
  refine ⟨fun hi => ?_, fun hi => ⟨vs, sq, by rw [← r.length]; exact hi⟩, fun x H'' hy d hd => ?_⟩
  · have hv : i < vs.length := by rw [← r.length]; exact hi
    exact ⟨vs, vs[i], sq, List.getElem?_eq_getElem hv⟩
  · obtain ⟨rfl, hy⟩ := hy
    obtain ⟨v, e1, e2⟩ := r.get hd
    have e3 := hy vs sq
    rw [e1] at e3
    cases e3
    exact ⟨G', Gr.refl _ _ _, sm, Rep.mono le pre _ _ e2⟩
theorem it_tup {K : PySem.W.Frag} {a : Addr} {xs : List D} {vs : List V} (g : G a = some (.tup vs)) (r : RepL Γ G α xs vs) : ItR Γ G H α xs (Itt K a) := by
  intro G' H' α' μ' le pre sm i
  have g' := le.eq g (fun _ z => by cases z)
  have sq : SqT K H' a vs := SqT.of (sm.sub _ _ g')
  refine ⟨fun hi => ?_, fun hi => ⟨vs, sq, by rw [← r.length]; exact hi⟩, fun x H'' hy d hd => ?_⟩
  · have hv : i < vs.length := by rw [← r.length]; exact hi
    exact ⟨vs, vs[i], sq, List.getElem?_eq_getElem hv⟩
  · obtain ⟨rfl, hy⟩ := hy
    obtain ⟨v, e1, e2⟩ := r.get hd
    have e3 := hy vs sq
    rw [e1] at e3
    cases e3
    exact ⟨G', Gr.refl _ _ _, sm, Rep.mono le pre _ _ e2⟩
theorem rngL_len : ∀ (n : Nat) (lo : Int), (rngL n lo).length = n
  | 0, _ => rfl
  | n + 1, lo => by simp [rngL, rngL_len n]
theorem rngL_at : ∀ (n : Nat) (lo : Int) (i : Nat) (d : D), (rngL n lo)[i]? = some d → d = .int (lo + i)
  | 0, _, _, _, h => by simp [rngL] at h
  | n + 1, lo, 0, d, h => by simp [rngL] at h; rw [← h]; simp
  | n + 1, lo, i + 1, d, h => by
    have := rngL_at n (lo + 1) i d (by simpa [rngL] using h)
    rw [this]; congr 1; push_cast; omega
theorem it_rng {n : Nat} {lo : Int} : ItR Γ G H α (rngL n lo) (Itr lo n) := by
  intro G' H' α' μ' le pre sm i
  rw [rngL_len]
  refine ⟨fun hi => hi, fun hi => hi, fun x H'' hy d hd => ?_⟩
  obtain ⟨rfl, rfl⟩ := hy
  rw [rngL_at n lo i d hd]
  exact ⟨G', Gr.refl _ _ _, sm, by simp only [Rep]⟩
theorem enumL_len : ∀ (xs : List D) (k : Int), (enumL k xs).length = xs.length
  | [], _ => rfl
  | x :: xs, k => by simp [enumL, enumL_len xs]
theorem enumL_at : ∀ (xs : List D) (k : Int) (i : Nat) (d : D), (enumL k xs)[i]? = some d → ∃ y, xs[i]? = some y ∧ d = .tup [.int (k + i), y]
  | [], _, _, _, h => by simp [enumL] at h
  | x :: xs, k, 0, d, h => by simp [enumL] at h; exact ⟨x, rfl, by rw [← h]; simp⟩
  | x :: xs, k, i + 1, d, h => by
    obtain ⟨y, e1, e2⟩ := enumL_at xs (k + 1) i d (by simpa [enumL] using h)
    exact ⟨y, by simpa using e1, by rw [e2]; congr 3; push_cast; omega⟩
theorem it_enum {K : PySem.W.Frag} {a : Addr} {xs : List D} {vs : List V} (g : G a = some (.lst vs)) (r : RepL Γ G α xs vs) : ItR Γ G H α (enumL 0 xs) (Ite K a) := by
  intro G' H' α' μ' le pre sm i
  have g' := le.eq g (fun _ z => by cases z)
  have sq : SqL K H' a vs := SqL.of (sm.sub _ _ g')
  rw [enumL_len]
  refine ⟨fun hi => ?_, fun hi => ⟨vs, sq, by rw [← r.length]; exact hi⟩, fun x H'' hy d hd => ?_⟩
  · have hv : i < vs.length := by rw [← r.length]; exact hi
    exact ⟨vs, vs[i], sq, List.getElem?_eq_getElem hv⟩
  · obtain ⟨T, y, rfl, hT, rfl, hy⟩ := hy
    obtain ⟨z, e1, rfl⟩ := enumL_at xs 0 i d hd
    obtain ⟨v, e2, e3⟩ := r.get e1
    have e4 := hy vs sq
    rw [e2] at e4
    cases e4
    obtain ⟨g2, s2⟩ := alloc (o := .tup [.int (i : Nat), y]) sm hT
    refine ⟨_, g2, s2, ?_⟩
    simp only [Rep]
    refine ⟨T, [.int (i : Nat), y], rfl, upd_same, RepL.cons ?_ (RepL.cons ?_ RepL.nil)⟩
    · simp only [Rep]; congr 1; omega
    · exact Rep.mono (le.trans g2.le) (pre.trans g2.pre) _ _ e3
theorem zipL_len : ∀ (xs ys : List D), (zipL xs ys).length = min xs.length ys.length
  | [], _ => by simp [zipL]
  | _ :: _, [] => by simp [zipL]
  | x :: xs, y :: ys => by simp [zipL, zipL_len xs ys]
theorem zipL_at : ∀ (xs ys : List D) (i : Nat) (d : D), (zipL xs ys)[i]? = some d → ∃ x y, xs[i]? = some x ∧ ys[i]? = some y ∧ d = .tup [x, y]
  | [], _, _, _, h => by simp [zipL] at h
  | _ :: _, [], _, _, h => by simp [zipL] at h
  | x :: xs, y :: ys, 0, d, h => by simp [zipL] at h; exact ⟨x, y, rfl, rfl, h.symm⟩
  | x :: xs, y :: ys, i + 1, d, h => by
    obtain ⟨a, b, e1, e2, e3⟩ := zipL_at xs ys i d (by simpa [zipL] using h)
    exact ⟨a, b, by simpa using e1, by simpa using e2, e3⟩
theorem it_zipL {K : PySem.W.Frag} {a b : Addr} {xs ys : List D} {vs us : List V} (g : G a = some (.lst vs)) (r : RepL Γ G α xs vs) (g2 : G b = some (.lst us)) (r2 : RepL Γ G α ys us) : ItR Γ G H α (zipL xs ys) (Itz K a b) := by
  intro G' H' α' μ' le pre sm i
  have sq : SqL K H' a vs := SqL.of (sm.sub _ _ (le.eq g (fun _ z => by cases z)))
  have sq2 : SqL K H' b us := SqL.of (sm.sub _ _ (le.eq g2 (fun _ z => by cases z)))
  have l1 := r.length
  have l2 := r2.length
  rw [zipL_len]
  refine ⟨fun hi => ?_, fun hi => ⟨vs, us, sq, sq2, by omega⟩, fun x H'' hy d hd => ?_⟩
  · exact ⟨vs, us, vs[i], us[i], sq, sq2, List.getElem?_eq_getElem (by omega), List.getElem?_eq_getElem (by omega)⟩
  · obtain ⟨T, y, z, rfl, hT, rfl, hy, hz⟩ := hy
    obtain ⟨y', z', e1, e2, rfl⟩ := zipL_at xs ys i d hd
    obtain ⟨v, e3, e4⟩ := r.get e1
    obtain ⟨u, e5, e6⟩ := r2.get e2
    have q1 := hy vs sq
    have q2 := hz us sq2
    rw [e3] at q1; rw [e5] at q2
    cases q1; cases q2
    obtain ⟨g2, s2⟩ := alloc (o := .tup [y, z]) sm hT
    refine ⟨_, g2, s2, ?_⟩
    simp only [Rep]
    exact ⟨T, [y, z], rfl, upd_same, RepL.cons (Rep.mono (le.trans g2.le) (pre.trans g2.pre) _ _ e4) (RepL.cons (Rep.mono (le.trans g2.le) (pre.trans g2.pre) _ _ e6) RepL.nil)⟩
theorem it_zipT {K : PySem.W.Frag} {a b : Addr} {xs ys : List D} {vs us : List V} (g : G a = some (.tup vs)) (r : RepL Γ G α xs vs) (g2 : G b = some (.tup us)) (r2 : RepL Γ G α ys us) : ItR Γ G H α (zipL xs ys) (RZ.ItzT K a b) := by
  intro G' H' α' μ' le pre sm i
  have sq : SqT K H' a vs := SqT.of (sm.sub _ _ (le.eq g (fun _ z => by cases z)))
  have sq2 : SqT K H' b us := SqT.of (sm.sub _ _ (le.eq g2 (fun _ z => by cases z)))
  have l1 := r.length
  have l2 := r2.length
  rw [zipL_len]
  refine ⟨fun hi => ?_, fun hi => ⟨vs, us, sq, sq2, by omega⟩, fun x H'' hy d hd => ?_⟩
  · exact ⟨vs, us, vs[i], us[i], sq, sq2, List.getElem?_eq_getElem (by omega), List.getElem?_eq_getElem (by omega)⟩
  · obtain ⟨T, y, z, rfl, hT, rfl, hy, hz⟩ := hy
    obtain ⟨y', z', e1, e2, rfl⟩ := zipL_at xs ys i d hd
    obtain ⟨v, e3, e4⟩ := r.get e1
    obtain ⟨u, e5, e6⟩ := r2.get e2
    have q1 := hy vs sq
    have q2 := hz us sq2
    rw [e3] at q1; rw [e5] at q2
    cases q1; cases q2
    obtain ⟨g2, s2⟩ := alloc (o := .tup [y, z]) sm hT
    refine ⟨_, g2, s2, ?_⟩
    simp only [Rep]
    exact ⟨T, [y, z], rfl, upd_same, RepL.cons (Rep.mono (le.trans g2.le) (pre.trans g2.pre) _ _ e4) (RepL.cons (Rep.mono (le.trans g2.le) (pre.trans g2.pre) _ _ e6) RepL.nil)⟩
theorem PI.imp {X : Cx} {tg it : Expr} {t t' : TI} (h : PI X tg it t) (k : ∀ σ H R, t' σ H R → t σ H R) : PI X tg it t' := ⟨fun pins s σ H R I q => h.run pins s σ H R I (k σ H R q)⟩
theorem si_rng1 {a : Expr} {ta : E} {p pos : Pos} (hg : Gl X "range") (hm : X.mg "range" = none) (h : SE X Γ c W a ta) (hn : ∀ x p, a ≠ .Starred x p) : PI X tg (.Call (.Name "range" p) [a] [] pos) (tI Γ c W (.rng (.con (.int 0)) ta)) := by
  refine PI.imp (pi_range1 hg hm (pa_cons h pa_nil (star_ne hn)) (star_ne hn)) fun σ H R ⟨G, α, ρ, μ, sm, en, w⟩ => ?_
  have w' : Wn Γ W σ G H α (ItR Γ) (MW.bnd (ev c ρ ta) (fun y => match (D.int 0), y.d with
    | .int i, .int j => if inRange i && inRange j then MW.pur (rngL (j - i).toNat i) else MW.bad
    | _, _ => MW.bad) μ) R := w
  refine tE_mono0 (one (c := c) sm en w') fun v H1 ⟨x, G1, α1, μ1, k1, g1, sm1, en1, r1, w1⟩ => ?_
  have dr := r1.datR
  generalize x.d = d at dr w1
  cases d <;> first | exact w1.elim | skip
  rename_i j
  have e := dr.int
  subst e
  by_cases hi : (inRange 0 && inRange j) = true
  · simp only [if_pos hi] at w1
    have w2 := w1.pur sm1 (b := Itr 0 (j - 0).toNat) it_rng
    simp only [inRange, Bool.and_eq_true, decide_eq_true_eq] at hi
    exact ⟨j, rfl, hi.2.1, hi.2.2, by rw [Int.sub_zero] at w2; exact w2⟩
  · simp only [if_neg hi] at w1; exact w1.elim
theorem si_rng2 {a b : Expr} {ta tb : E} {p pos : Pos} (hg : Gl X "range") (hm : X.mg "range" = none) (h : SE X Γ c W a ta) (h2 : SE X Γ c W b tb) (hn : ∀ x p, a ≠ .Starred x p) (hn2 : ∀ x p, b ≠ .Starred x p) : PI X tg (.Call (.Name "range" p) [a, b] [] pos) (tI Γ c W (.rng ta tb)) := by
  have e2 : starEach [b] X.env = [(false, eval b X.env)] := star_ne hn2
  refine PI.imp (pi_range2 hg hm (pa_cons h (pa_cons h2 pa_nil (star_ne hn2)) (star_ne hn)) (by rw [star_ne hn, e2]) e2) fun σ H R ⟨G, α, ρ, μ, sm, en, w⟩ => ?_
  refine tE_mono0 (one (c := c) sm en w) fun v H1 ⟨x, G1, α1, μ1, k1, g1, sm1, en1, r1, w1⟩ => tE_mono0 (one (c := c) sm1 en1 w1) fun v2 H2 ⟨y, G2, α2, μ2, k2, g2, sm2, en2, r2, w2⟩ => ?_
  have dr := r1.datR
  have dr2 := r2.datR
  generalize x.d = d at dr w2
  generalize y.d = d2 at dr2 w2
  cases d <;> first | exact w2.elim | skip
  cases d2 <;> first | exact w2.elim | skip
  rename_i i j
  have e := dr.int
  have e3 := dr2.int
  subst e; subst e3
  by_cases hi : (inRange i && inRange j) = true
  · simp only [if_pos hi] at w2
    have w3 := w2.pur sm2 (b := Itr i (j - i).toNat) it_rng
    simp only [inRange, Bool.and_eq_true, decide_eq_true_eq] at hi
    exact ⟨i, j, rfl, ⟨hi.1.1, hi.1.2, hi.2.1, hi.2.2⟩, w3⟩
  · simp only [if_neg hi] at w2; exact w2.elim
end
end MW
namespace MW
open PySem PySem.Spec PyProof.Rows L2
section
variable {X : Cx} {Γ : GX} {c : CL} {W : WX} {σ : L2.St} {ρ ρ' : List Sl} {G H G1 H1 H0 Gb Hb : Hp} {α α1 αb : List Addr} {μ μ1 : Mu} {pins : List (Addr × Obj)} {s : Shared} {tg : Expr}
theorem fp_one {b : Addr} (I : Inv X pins σ H s) (hb : b ∈ [s.heap.objs.size]) : FpOk X pins H b := by
  rw [List.mem_singleton.mp hb]
  exact I.fpOk (Nat.le_refl _) (I.hok.fresh (Nat.le_refl _))
theorem go_lst {a : Addr} {vs : List V} {R : L2.It → Hp → Prop} (I : Inv X pins σ H s) (h : H a = some (.lst vs)) (q : R (Itl X.K a) H) : wpAny (model X.prog X.w) X.A (pyIter (.ref a)) (PIE X pins σ tg R) X.xe s := by
  obtain ⟨us, _, at_, _⟩ := I.list (SqL.of h)
  refine wpAny_pyIter_list at_.isList ?_
  have J := I.kept (t' := s.toks) (h' := s.heap.push { cls := .type "list_iterator", data := .fields #[.ref a, rawInt 0] }) fun b o e => Heap.get?_push_of_some _ e
  exact ⟨s.heap.objs.size, [s.heap.objs.size], _, _, H, rfl, J, turn_list a _, ⟨_, Heap.get?_push_size _ rfl, rfl, rfl⟩, fun b hb => fp_one I hb, q⟩
theorem go_tup {a : Addr} {vs : List V} {R : L2.It → Hp → Prop} (I : Inv X pins σ H s) (h : H a = some (.tup vs)) (q : R (Itt X.K a) H) : wpAny (model X.prog X.w) X.A (pyIter (.ref a)) (PIE X pins σ tg R) X.xe s := by
  obtain ⟨us, _, at_, _⟩ := I.tuple (SqT.of h)
  refine wpAny_pyIter_tuple (items := us.toArray) at_ ?_
  have J := I.kept (t' := s.toks) (h' := s.heap.push { cls := .type "tuple_iterator", data := .fields #[.ref a, rawInt 0] }) fun b o e => Heap.get?_push_of_some _ e
  exact ⟨s.heap.objs.size, [s.heap.objs.size], _, _, H, rfl, J, turn_tuple a _, ⟨_, Heap.get?_push_size _ rfl, rfl, rfl⟩, fun b hb => fp_one I hb, q⟩
theorem rep_lst {xs : List D} {v : V} (r : Rep Γ G α (.lst xs) v) : ∃ a vs, v = .ref a ∧ G a = some (.lst vs) ∧ RepL Γ G α xs vs := by
  simp only [Rep] at r; exact r
theorem rep_tup {xs : List D} {v : V} (r : Rep Γ G α (.tup xs) v) : ∃ a vs, v = .ref a ∧ G a = some (.tup vs) ∧ RepL Γ G α xs vs := by
  simp only [Rep] at r; exact r
theorem si_seq {e : Expr} {t : E} (h : SE X Γ c W e t) : PI X tg e (tI Γ c W (.seq t)) := by
  refine ⟨fun pins s σ H R I ⟨G, α, ρ, μ, sm, en, w⟩ => ?_⟩
  refine thn (h.frz.run pins s σ H _ I (oneF (c := c) sm en w)) fun v s1 ⟨x, H1, I1, r1, d, G1, α1, μ1, k1, g1, sm1, en1, rd, w1⟩ => ?_
  obtain ⟨xs, e1, w2⟩ := w1.opt0
  cases d <;> simp only [seqOf, reduceCtorEq, Option.some.injEq] at e1
  · subst e1
    obtain ⟨a, vs, rfl, g, rl⟩ := rep_tup rd
    cases r1
    exact go_tup I1 (sm1.sub _ _ g) (w2.pur sm1 (it_tup g rl))
  · subst e1
    obtain ⟨a, vs, rfl, g, rl⟩ := rep_lst rd
    cases r1
    exact go_lst I1 (sm1.sub _ _ g) (w2.pur sm1 (it_lst g rl))
theorem si_enum {e : Expr} {t : E} {p pos tpos : Pos} {elts : List Expr} {kk : Nat} (hg : Gl X "enumerate") (hm : X.mg "enumerate" = none) (h : SE X Γ c W e t) (hn : ∀ x p, e ≠ .Starred x p) : PI X (.Tuple elts kk tpos) (.Call (.Name "enumerate" p) [e] [] pos) (tI Γ c W (.enum t)) := by
  refine PI.imp (pi_enum hg hm (pa_cons h.frz pa_nil (star_ne hn)) (star_ne hn)) fun σ H R ⟨G, α, ρ, μ, sm, en, w⟩ => ?_
  refine tF_mono (oneF (c := c) sm en w) fun v H1 ⟨d, G1, α1, μ1, k1, g1, sm1, en1, rd, w1⟩ => ?_
  obtain ⟨xs, e1, w2⟩ := w1.opt
  cases d <;> simp only [lstOf, reduceCtorEq, Option.some.injEq] at e1
  subst e1
  obtain ⟨a, vs, rfl, g, rl⟩ := rep_lst rd
  exact ⟨a, vs, rfl, SqL.of (sm1.sub _ _ g), w2.pur sm1 (it_enum g rl)⟩
theorem si_zip {e e2 : Expr} {t t2 : E} {p pos tpos : Pos} {elts : List Expr} {kk : Nat} (hg : Gl X "zip") (hm : X.mg "zip" = none) (h : SE X Γ c W e t) (h2 : SE X Γ c W e2 t2) (hn : ∀ x p, e ≠ .Starred x p) (hn2 : ∀ x p, e2 ≠ .Starred x p) :
    PI X (.Tuple elts kk tpos) (.Call (.Name "zip" p) [e, e2] [] pos) (tI Γ c W (.zip t t2)) := by
  have e3 : starEach [e2] X.env = [(false, eval e2 X.env)] := star_ne hn2
  refine PI.imp (RZ.pi_zipA hg hm (pa_cons h.frz (pa_cons h2.frz pa_nil (star_ne hn2)) (star_ne hn)) (star_ne hn) (by rw [e3]; rfl)) fun σ H R ⟨G, α, ρ, μ, sm, en, w⟩ => ?_
  refine tF_mono (oneF (c := c) sm en w) fun v H1 ⟨d, G1, α1, μ1, k1, g1, sm1, en1, rd, w1⟩ => tF_mono (oneF (c := c) sm1 en1 w1) fun v2 H2 ⟨d2, G2, α2, μ2, k2, g2, sm2, en2, rd2, w2⟩ => ?_
  obtain ⟨xs, e1, w3⟩ := w2.opt0
  have rd' := Rep.mono g2.le g2.pre _ _ rd
  cases d <;> cases d2 <;> simp only [zipD, reduceCtorEq, Option.some.injEq] at e1
  · subst e1
    obtain ⟨a, vs, rfl, g, rl⟩ := rep_tup rd'
    obtain ⟨b, us, rfl, gg, rl2⟩ := rep_tup rd2
    exact ⟨a, b, vs, us, rfl, .inr ⟨SqT.of (sm2.sub _ _ g), SqT.of (sm2.sub _ _ gg), w3.pur sm2 (it_zipT g rl gg rl2)⟩⟩
  · subst e1
    obtain ⟨a, vs, rfl, g, rl⟩ := rep_lst rd'
    obtain ⟨b, us, rfl, gg, rl2⟩ := rep_lst rd2
    exact ⟨a, b, vs, us, rfl, .inl ⟨SqL.of (sm2.sub _ _ g), SqL.of (sm2.sub _ _ gg), w3.pur sm2 (it_zipL g rl gg rl2)⟩⟩
end
end MW
namespace MW
open PySem PySem.Spec PyProof.Rows L2
abbrev W0 : WX := fun _ _ _ _ => False
section
variable {X : Cx} {Γ : GX} {c : CL} {W : WX} {σ : L2.St} {ρ ρ' : List Sl} {G H G1 H1 H0 Gb Hb : Hp} {α α1 αb : List Addr} {μ μ1 : Mu} {pins : List (Addr × Obj)} {s : Shared} {tg : Expr}
theorem EnvR.drop1 {v : Nat} (en : EnvR Γ G H α ρ σ) : EnvR Γ G H α (ρ.set v .un) (σ.set v none) := by
  refine ⟨by rw [List.length_set, List.length_set]; exact en.len, fun j y o e1 e2 => ?_, fun j k d e p hne e1 e2 e3 e4 => ?_⟩
  · by_cases hj : v = j
    · subst hj
      rw [List.getElem?_set] at e1
      simp only [if_true] at e1
      split at e1
      · cases e1; trivial
      · cases e1
    · rw [List.getElem?_set_ne hj] at e1 e2
      exact en.at_ j y o e1 e2
  · have nj : v ≠ j := fun z => by
      subst z
      rw [List.getElem?_set] at e1
      simp only [if_true] at e1
      split at e1 <;> cases e1
    have nk : v ≠ k := fun z => by
      subst z
      rw [List.getElem?_set] at e2
      simp only [if_true] at e2
      split at e2 <;> cases e2
    rw [List.getElem?_set_ne nj] at e1 e3
    rw [List.getElem?_set_ne nk] at e2 e4
    exact en.dis j k d e p hne e1 e2 e3 e4
theorem EnvR.unset (en : EnvR Γ G H α ρ σ) : ∀ vs : List Nat, EnvR Γ G H α (MW.unset ρ vs) (wipe σ vs)
  | [] => en
  | v :: vs => (EnvR.unset en vs).drop1
theorem wipe_at : ∀ (vs : List Nat) (σ : L2.St) (j : Nat), (wipe σ vs)[j]? = if j ∈ vs then (if j < σ.length then some none else none) else σ[j]?
  | [], σ, j => by simp [wipe]
  | v :: vs, σ, j => by
    unfold wipe
    rw [List.getElem?_set, wipe_length, wipe_at vs σ j]
    by_cases h : v = j
    · subst h; simp
    · simp [h, Ne.symm h]
theorem wipe_out {vs : List Nat} {σ1 σ2 : L2.St} (h : OutS vs (wipe σ1 vs) σ2) : wipe σ2 vs = wipe σ1 vs := by
  apply List.ext_getElem?
  intro j
  have l : σ2.length = σ1.length := by rw [h.1, wipe_length]
  rw [wipe_at]
  by_cases hj : j ∈ vs
  · rw [if_pos hj, l, wipe_at, if_pos hj]
  · rw [if_neg hj, h.2 j hj]
def tC1 (Γ : GX) (c : CL) (cs : Es) : TT := fun σ H Q => ∃ G α ρ μ, Sim Γ G H α μ ∧ EnvR Γ G H α ρ σ ∧ Wn Γ W0 σ G H α EqR (evt c ρ cs μ) Q
theorem PTs.imp {X : Cx} {es : List Expr} {t t' : TT} (h : PTs X es t) (k : ∀ σ H Q, t' σ H Q → t σ H Q) : PTs X es t' := ⟨fun pins s σ H Q I q => h.run pins s σ H Q I (k σ H Q q)⟩
theorem sts_nil : PTs X [] (tC1 Γ c .nil) := PTs.imp pts_nil fun σ H Q ⟨G, α, ρ, μ, sm, en, w⟩ => w.pur sm rfl
theorem sts_one {e : Expr} {t : E} {st : Bool} (h : ST X Γ c W0 e t) : PTs X [e] (tC1 Γ c (.cons st t .nil)) := by
  refine PTs.imp (pts_one h) fun σ H Q ⟨G, α, ρ, μ, sm, en, w⟩ => ⟨G, α, ρ, μ, sm, en, ?_⟩
  have e : evt c ρ (.cons st t .nil) μ = evb c ρ t μ := by
    simp only [evt, evb, MW.bnd, look]
    cases ev c ρ t μ with
    | ok a m1 =>
      simp only []
      cases truthD (content a.d m1) with
      | none => rfl
      | some b => cases b <;> rfl
    | exc _ _ _ => rfl
    | bad => rfl
  rw [e] at w
  exact w
def turn1 (c : CL) (ρw : List Sl) (t : Tg) (cs : Es) (elt : E) (x : D) : M (List D) := MW.bnd (MW.opt (asgT t (.dat x) ρw)) fun ρ' => MW.bnd (evt c ρ' cs) fun b => if b then MW.bnd (evF c ρ' elt) fun d => MW.pur [d] else MW.pur []
theorem comp_eq (c : CL) (ρ : List Sl) (t : Tg) (it : It) (cs : Es) (elt : E) (m : Mu) : ev c ρ (.comp elt (.cons t it cs .nil)) m =
    nox (MW.bnd (evi c ρ it) fun xs => MW.bnd (mapC (turn1 c (unset ρ (tgOwn t ++ [])) t cs elt) xs) fun ds => if ds.length ≤ LINE then MW.pur (.frs (.lst ds)) else MW.bad) m := by
  simp only [ev, evg, gsOwn, nox, MW.bnd]
  cases evi c ρ it m with
  | ok xs m1 =>
    simp only []
    have e : (fun x => MW.bnd (MW.opt (asgT t (.dat x) (unset ρ (tgOwn t ++ [])))) fun ρ' => MW.bnd (evt c ρ' cs) fun b => if b = true then MW.bnd (ev c ρ' elt) fun v => MW.bnd (MW.opt v.fz) fun d => MW.pur [d] else MW.pur []) = turn1 c (unset ρ (tgOwn t ++ [])) t cs elt := by
      funext x
      unfold turn1
      congr 1
      funext ρ'
      congr 1
      funext b
      cases b with
      | false => rfl
      | true =>
        funext m2
        exact (evF_bnd c ρ' elt (fun d => MW.pur [d]) m2).symm
    rw [← e]
  | exc _ _ _ => rfl
  | bad => rfl
def CompI (Γ : GX) (c : CL) (G H : Hp) (α : List Addr) (G1 : Hp) (α1 : List Addr) (f : D → M (List D)) (D : Addr) (xs : List MW.D) (ds : List MW.D) (m2 : Mu) (i n : Nat) (H' : Hp) : Prop :=
  ∃ G' α' μ' acc vs rest, i ≤ xs.length ∧ n = xs.length - i ∧ Gr G H α G' H' α' ∧ Le G1 G' ∧ Pre α1 α' ∧ Sim Γ G' H' α' μ' ∧ G' D = none ∧ D ∉ α' ∧ H' D = some (.lst vs) ∧ RepL Γ G' α' acc vs ∧ mapC f (xs.drop i) μ' = .ok rest m2 ∧ acc ++ rest = ds
theorem comp_read {own : List (Str × Nat)} {it : It} {t : Tg} {cs : Es} {te : E} {Q : VK} (hown : own.map (·.2) = tgOwn t ++ []) (h : tE Γ c W (.comp te (.cons t it cs .nil)) σ H Q) :
    tLc (tI Γ c W it) (gT Γ t) (tC1 Γ c cs) (tF Γ c W0 te) (own.map (·.2)) σ H Q := by
  obtain ⟨G, α, ρ, μ, sm, en, w⟩ := h
  rw [comp_eq] at w
  rw [hown]
  generalize hρ : MW.unset ρ (tgOwn t ++ []) = ρw at w
  unfold nox MW.bnd at w
  refine ⟨G, α, ρ, μ, sm, en, ?_⟩
  cases e : evi c ρ it μ with
  | ok xs m1 =>
    rw [e] at w
    intro J G1 H1 α1 g1 sm1 itr D hD
    simp only [] at w
    cases e2 : mapC (turn1 c ρw t cs te) xs m1 with
    | ok ds m2 =>
      rw [e2] at w
      simp only [] at w
      by_cases hl : ds.length ≤ LINE
      · rw [if_pos hl] at w
        have w' : ∀ b G' H' α', Gr G H α G' H' α' → Sim Γ G' H' α' m2 → VlR Γ H G' H' α' (.frs (.lst ds)) b → Q b H' := w
        have kp1 := g1.there sm sm1
        have hD0 := kp1.none hD
        obtain ⟨gD, nD⟩ := sm1.none hD
        obtain ⟨ga, sa⟩ := allocF (o := .lst []) sm1 hD
        refine ⟨CompI Γ c G H α G1 α1 (turn1 c ρw t cs te) D xs ds m2, ⟨xs.length, G1, α1, m1, [], [], ds, Nat.zero_le _, by simp, g1.trans ga, Le.refl _, Pre.refl _, sa, gD, nD, upd_same, RepL.nil, e2, rfl⟩, ?_⟩
        rintro i n H2 ⟨G2, α2, μ2, acc, vs, rest, hi2, hn, g2, le2, pr2, sm2, gD2, nD2, hD2, ra, em, ea⟩
        obtain ⟨hgo, hst, hy⟩ := itr G2 H2 α2 μ2 le2 pr2 sm2 i
        by_cases hix : i < xs.length
        · refine .inr ⟨hgo hix, CompI Γ c G H α G1 α1 (turn1 c ρw t cs te) D xs ds m2 (i + 1) (xs.length - (i + 1)), fun H' q => ⟨xs.length - (i + 1), by omega, q⟩, fun x H3 yl => ?_⟩
          have hxd : xs[i]? = some xs[i] := List.getElem?_eq_getElem hix
          obtain ⟨G3, g3, sm3, rx⟩ := hy x H3 yl _ hxd
          have hdrop : xs.drop i = xs[i] :: xs.drop (i + 1) := (List.drop_eq_getElem_cons hix)
          rw [hdrop] at em
          generalize xs[i] = d at em rx
          unfold mapC MW.bnd at em
          -- the turn of the evaluator
          cases et : turn1 c ρw t cs te d μ2 with
          | exc _ _ _ => rw [et] at em; cases em
          | bad => rw [et] at em; cases em
          | ok as m3 =>
            rw [et] at em
            simp only [] at em
            cases er : mapC (turn1 c ρw t cs te) (xs.drop (i + 1)) m3 with
            | exc _ _ _ => rw [er] at em; cases em
            | bad => rw [er] at em; cases em
            | ok rr m4 =>
              rw [er] at em
              have em' : Res.ok (as ++ rr) m4 = Res.ok rest m2 := em
              cases em'
              have g23 := g2.trans g3
              obtain ⟨hD3, gD3, nD3⟩ := g3.fr D _ hD2 gD2 nD2
              have ra3 := RepL.mono g3.le g3.pre _ _ ra
              unfold turn1 at et
              cases eas : asgT t (.dat d) ρw with
              | none => rw [eas] at et; cases et
              | some ρ2 =>
                rw [eas] at et
                have et1 : MW.bnd (evt c ρ2 cs) (fun b => if b = true then MW.bnd (evF c ρ2 te) fun d => MW.pur [d] else MW.pur []) μ2 = .ok as m3 := et
                have en3 : EnvR Γ G3 H3 α2 ρw (wipe σ (tgOwn t ++ [])) := by
                  rw [← hρ]
                  exact (en.grow g23).unset _
                have st3 := Sta.free sm3 en3
                refine ⟨_, _, [], G3, α2, ρw, μ2, .dat d, ρ2, st3, ⟨rx, fun d e => by cases e⟩, eas, fun σ4 st4 out => ?_⟩
                have out' : OutS (tgOwn t ++ []) (wipe σ (tgOwn t ++ [])) σ4 := by rw [List.append_nil] at out ⊢; exact out
                refine ⟨wipe_out out', ?_⟩
                -- the tests
                unfold MW.bnd at et1
                refine ⟨G3, α2, ρ2, μ2, st4.sm, st4.en, ?_⟩
                cases ec : evt c ρ2 cs μ2 with
                | exc _ _ _ => rw [ec] at et1; cases et1
                | bad => rw [ec] at et1; cases et1
                | ok b m5 =>
                  rw [ec] at et1
                  simp only [] at et1
                  intro b' G5 H5 α5 g5 sm5 eb
                  cases (show b = b' from eb)
                  have g25 := g23.trans g5
                  obtain ⟨hD5, gD5, nD5⟩ := g5.fr D _ hD3 gD3 nD3
                  have ra5 := RepL.mono g5.le g5.pre _ _ ra3
                  cases b with
                  | false =>
                    simp only [Bool.false_eq_true, if_false] at et1 ⊢
                    cases et1
                    exact ⟨G5, α5, m3, acc, vs, rr, hix, rfl, g25, (le2.trans g3.le).trans g5.le, (pr2.trans g3.pre).trans g5.pre, sm5, gD5, nD5, hD5, ra5, er, by simpa using ea⟩
                  | true =>
                    simp only [if_true] at et1 ⊢
                    refine ⟨G5, α5, ρ2, m5, sm5, st4.en.grow g5, ?_⟩
                    cases ee : evF c ρ2 te m5 with
                    | exc _ _ _ => rw [ee] at et1; cases et1
                    | bad => rw [ee] at et1; cases et1
                    | ok d6 m6 =>
                      rw [ee] at et1
                      have et2 : Res.ok [d6] m6 = Res.ok as m3 := et1
                      cases et2
                      intro y G6 H6 α6 g6 sm6 ry
                      have ry' : Rep Γ G6 α6 d6 y := ry
                      obtain ⟨hD6, gD6, nD6⟩ := g6.fr D _ hD5 gD5 nD5
                      have ra6 := RepL.mono g6.le g6.pre _ _ ra5
                      have el : acc.length + 1 + rr.length = ds.length := by rw [← ea]; simp; omega
                      have lv := ra6.length
                      have hl' := LINEs hl
                      refine ⟨vs, hD6, by omega, ?_⟩
                      refine ⟨G6, α6, m3, acc ++ [d6], vs ++ [y], rr, hix, rfl, (g25.trans g6).wr hD0, ((le2.trans g3.le).trans g5.le).trans g6.le, ((pr2.trans g3.pre).trans g5.pre).trans g6.pre, sm6.wr gD6 nD6, gD6, nD6, upd_same, ra6.append (RepL.cons ry' RepL.nil), er, by rw [← ea]; simp⟩
        · refine .inl ⟨hst (by omega), ?_⟩
          have e0 : xs.drop i = [] := List.drop_eq_nil_of_le (by omega)
          rw [e0] at em
          have em' : Res.ok [] μ2 = Res.ok rest m2 := em
          cases em'
          rw [List.append_nil] at ea
          subst ea
          exact w' _ _ _ _ g2 sm2 ⟨D, rfl, gD2, nD2, ⟨vs, hD2, ra⟩, hD0, fun _ _ z => by cases z⟩
      · rw [if_neg hl] at w; exact w.elim
    | exc _ _ _ => rw [e2] at w; exact w.elim
    | bad => rw [e2] at w; exact w.elim
  | exc _ _ _ => rw [e] at w; exact w.elim
  | bad => rw [e] at w; exact w.elim
theorem se_comp (hc : X.calm = true) (hN : X.N.Nodup) {elt tg iter : Expr} {ifs : List Expr} {scope : Scope} {own : List (Str × Nat)} {pos : Pos} {it : It} {t : Tg} {cs : Es} {te : E} (hi : PI X tg iter (tI Γ c W it)) (ok : BlkOk X.N X.env.scope scope own) (hown : own.map (·.2) = tgOwn t ++ [])
    (hg : ∀ (s : Shared) (H : Hp) (C : Addr) (cl : List (Str × Addr)) (fp : List Addr), PG (X.blk s H scope (compEnvC scope cl C X.env) fp) tg (gT Γ t)) (ht : ∀ (s : Shared) (H : Hp) (C : Addr) (cl : List (Str × Addr)) (fp : List Addr), PTs (X.blk s H scope (compEnvC scope cl C X.env) fp) ifs (tC1 Γ c cs))
    (he : ∀ (s : Shared) (H : Hp) (C : Addr) (cl : List (Str × Addr)) (fp : List Addr), SE (X.blk s H scope (compEnvC scope cl C X.env) fp) Γ c W0 elt te) (hs : ∀ x, foldedSetIterable iter X.env x = pure x) :
    SE X Γ c W (.ListComp elt [⟨tg, iter, ifs, 0⟩] scope pos) (.comp te (.cons t it cs .nil)) :=
  imp (pe_lc hc hN hi ok hg ht (fun s H C cl fp => (he s H C cl fp).frz) hs) fun σ H Q h => comp_read hown h
end
end MW
namespace MW
open PySem PySem.Spec PyProof.Rows L2
def WnS (Γ : GX) (W : WX) (Gb Hb : Hp) (αb : List Addr) (D : Ends) (r : Res Fl) : Prop :=
  match r with
  | .ok (.nx ρ') μ' => ∀ σ' G' H' α', Sta Γ Gb Hb αb G' H' α' ρ' σ' μ' → D.nx σ' H'
  | .ok (.brk ρ') μ' => ∀ σ' G' H' α', Sta Γ Gb Hb αb G' H' α' ρ' σ' μ' → D.bk σ' H'
  | .ok (.cont ρ') μ' => ∀ σ' G' H' α', Sta Γ Gb Hb αb G' H' α' ρ' σ' μ' → D.ct σ' H'
  | .ok (.ret v) μ' => ∀ b G' H' α', Gr Gb Hb αb G' H' α' → Sim Γ G' H' α' μ' → VlR Γ Hb G' H' α' v b → (∀ d, v ≠ .bor d) → D.rt b H'
  | .ok (.exc e d ρ') μ' => ∀ dx σ' G' H' α', Sta Γ Gb Hb αb G' H' α' ρ' σ' μ' → ErrR Γ G' H' α' e d dx → Hb dx = none → W (.ref (Γ.cls e)) (some dx) σ' H'
  | _ => False
def tS (Γ : GX) (c : CL) (W : WX) (s : MW.S) : TS := fun D σ H => ∃ Gb Hb αb G α ρ μ, Sta Γ Gb Hb αb G H α ρ σ μ ∧ WnS Γ W Gb Hb αb D (exS c ρ s μ)
def tSs (Γ : GX) (c : CL) (W : WX) (ss : Ss) : TS := fun D σ H => ∃ Gb Hb αb G α ρ μ, Sta Γ Gb Hb αb G H α ρ σ μ ∧ WnS Γ W Gb Hb αb D (exSs c ρ ss μ)
def SS (X : Cx) (Γ : GX) (c : CL) (W : WX) (st : Stmt) (s : MW.S) : Prop := PS X st (tS Γ c W s)
def SSs (X : Cx) (Γ : GX) (c : CL) (W : WX) (sts : List Stmt) (ss : Ss) : Prop := PSs X sts (tSs Γ c W ss)
theorem PS.imp {X : Cx} {e : Stmt} {t t' : TS} (h : PS X e t) (k : ∀ D σ H, t' D σ H → t D σ H) : PS X e t' := ⟨fun pins s σ H D I q => h.run pins s σ H D I (k D σ H q)⟩
theorem PSs.imp {X : Cx} {e : List Stmt} {t t' : TS} (h : PSs X e t) (k : ∀ D σ H, t' D σ H → t D σ H) : PSs X e t' := ⟨fun pins s σ H D I q => h.run pins s σ H D I (k D σ H q)⟩
section
variable {X : Cx} {Γ : GX} {c : CL} {W : WX} {σ : L2.St} {ρ ρ' : List Sl} {G H G1 H1 H0 Gb Hb : Hp} {α α1 αb : List Addr} {μ μ1 : Mu} {pins : List (Addr × Obj)} {s : Shared} {tg : Expr} {D : Ends}
theorem liftW {A B : Type} {R : Hp → Hp → List Addr → A → B → Prop} {x : M A} {f : A → M Fl} (st : Sta Γ Gb Hb αb G H α ρ σ μ) (w : WnS Γ W Gb Hb αb D (lift x ρ f μ)) :
    Wn Γ W σ G H α R (x μ) (fun b H1 => ∃ a G1 α1 μ1, Gr G H α G1 H1 α1 ∧ Sta Γ Gb Hb αb G1 H1 α1 ρ σ μ1 ∧ R G1 H1 α1 a b ∧ WnS Γ W Gb Hb αb D (f a μ1)) := by
  unfold lift at w
  cases e : x μ with
  | ok a m =>
    rw [e] at w
    exact fun b G1 H1 α1 g s1 r => ⟨a, G1, α1, m, g, st.grow g s1, r, w⟩
  | exc ee d m =>
    rw [e] at w
    exact fun dx G1 H1 α1 g s1 r hn => w dx σ G1 H1 α1 (st.grow g s1) r (st.kp.none hn)
  | bad => rw [e] at w; exact w
theorem liftE {t : E} {f : Vl → M Fl} (st : Sta Γ Gb Hb αb G H α ρ σ μ) (w : WnS Γ W Gb Hb αb D (lift (ev c ρ t) ρ f μ)) :
    tE Γ c W t σ H fun v H1 => ∃ x G1 α1 μ1, Gr G H α G1 H1 α1 ∧ Sta Γ Gb Hb αb G1 H1 α1 ρ σ μ1 ∧ NewR Γ Hb G1 H1 α1 ρ σ x v ∧ WnS Γ W Gb Hb αb D (f x μ1) := by
  refine ⟨G, α, ρ, μ, st.sm, st.en, (liftW (R := VlR Γ H) st w).mono fun v H1 ⟨x, G1, α1, μ1, g, st1, r, w1⟩ => ⟨x, G1, α1, μ1, g, st1, ⟨?_, ?_⟩, w1⟩⟩
  · cases x with
    | dat d => exact r
    | frs d => obtain ⟨p, e, gp, np, o, h0, hd⟩ := r; exact ⟨p, e, gp, np, o, st.kp.none h0, hd⟩
    | bor d => exact r
  · intro d ed p ep j e e1 e2
    subst ed
    obtain ⟨p', e', _, _, _, h0, _⟩ := r
    rw [ep] at e'
    cases e'
    obtain ⟨q, eq, _, _, ow, _⟩ := st.en.at_ j _ _ e1 e2
    cases eq
    obtain ⟨o, ho⟩ := ow.some
    rw [h0] at ho; cases ho
theorem liftF {t : E} {f : MW.D → M Fl} (st : Sta Γ Gb Hb αb G H α ρ σ μ) (w : WnS Γ W Gb Hb αb D (lift (evF c ρ t) ρ f μ)) :
    tF Γ c W t σ H fun v H1 => ∃ x G1 α1 μ1, Gr G H α G1 H1 α1 ∧ Sta Γ Gb Hb αb G1 H1 α1 ρ σ μ1 ∧ Rep Γ G1 α1 x v ∧ WnS Γ W Gb Hb αb D (f x μ1) :=
  ⟨G, α, ρ, μ, st.sm, st.en, liftW (R := RepR Γ) st w⟩
theorem liftT {t : E} {f : Bool → M Fl} (st : Sta Γ Gb Hb αb G H α ρ σ μ) (w : WnS Γ W Gb Hb αb D (lift (evb c ρ t) ρ f μ)) :
    tT Γ c W t σ H fun v H1 => ∃ G1 α1 μ1, Gr G H α G1 H1 α1 ∧ Sta Γ Gb Hb αb G1 H1 α1 ρ σ μ1 ∧ WnS Γ W Gb Hb αb D (f v μ1) := by
  refine ⟨G, α, ρ, μ, st.sm, st.en, (liftW (R := EqR) st w).mono fun v H1 ⟨x, G1, α1, μ1, g, st1, r, w1⟩ => ?_⟩
  cases (show x = v from r)
  exact ⟨G1, α1, μ1, g, st1, w1⟩
theorem WnS.opt {A : Type} {o : Option A} {f : A → M Fl} (w : WnS Γ W Gb Hb αb D (MW.bnd (MW.opt o) f μ)) : ∃ a, o = some a ∧ WnS Γ W Gb Hb αb D (f a μ) := by
  cases o with
  | none => exact w.elim
  | some a => exact ⟨a, rfl, w⟩
theorem sss_nil : SSs X Γ c W [] .nil := PSs.imp pss_nil fun D σ H ⟨Gb, Hb, αb, G, α, ρ, μ, st, w⟩ => w σ G H α st
theorem WnS.seq {x : M Fl} {f : List Sl → M Fl} (w : WnS Γ W Gb Hb αb D (MW.bnd x (fun fl => match fl with
      | .nx ρ' => f ρ'
      | .ret v => MW.pur (.ret v)
      | .brk ρ' => MW.pur (.brk ρ')
      | .cont ρ' => MW.pur (.cont ρ')
      | .exc cc d ρ' => MW.pur (.exc cc d ρ')) μ)) {N : L2.St → Hp → Prop} (hN : ∀ ρ' μ' σ' G' H' α', Sta Γ Gb Hb αb G' H' α' ρ' σ' μ' → WnS Γ W Gb Hb αb D (f ρ' μ') → N σ' H') : WnS Γ W Gb Hb αb { D with nx := N } (x μ) := by
  unfold MW.bnd at w
  cases e : x μ with
  | ok fl m =>
    rw [e] at w
    cases fl with
    | nx ρ' => exact fun σ' G' H' α' st => hN ρ' m σ' G' H' α' st w
    | ret v => exact w
    | brk ρ' => exact w
    | cont ρ' => exact w
    | exc cc d ρ' => exact w
  | exc _ _ _ => rw [e] at w; exact w
  | bad => rw [e] at w; exact w
theorem sss_cons {st : Stmt} {r : List Stmt} {s : MW.S} {ss : Ss} (h1 : SS X Γ c W st s) (h2 : SSs X Γ c W r ss) : SSs X Γ c W (st :: r) (.cons s ss) := by
  refine PSs.imp (pss_cons h1 h2) fun D σ H ⟨Gb, Hb, αb, G, α, ρ, μ, sta, w⟩ => ?_
  refine ⟨Gb, Hb, αb, G, α, ρ, μ, sta, WnS.seq (f := fun ρ' => exSs c ρ' ss) w fun ρ' μ' σ' G' H' α' st w' => ⟨Gb, Hb, αb, G', α', ρ', μ', st, w'⟩⟩
theorem Sta.frz {i : Nat} {d : MW.D} (st : Sta Γ Gb Hb αb G H α ρ σ μ) (h : slot ρ i = .cel d) : ∃ G', Sta Γ Gb Hb αb G' H α (ρ.set i (.dat d)) σ μ := by
  have hi := slot_some h (by intro z; cases z)
  obtain ⟨o, e1, p, rfl, gp, np, ow, ni⟩ := st.en.here hi
  obtain ⟨G', le, s', rp, ne⟩ := freeze st.sm gp np ow ni
  have hb := st.ce i d p hi e1
  refine ⟨G', ⟨st.gr.le.trans le, st.gr.pre, fun a u ha ga na => ?_⟩, st.kp, s', ⟨?_, fun j x o ej eo => ?_, fun j k d1 d2 q hne e3 e4 e5 e6 => ?_⟩, fun j d1 q e3 e4 => ?_⟩
  · obtain ⟨h1, g1, n1⟩ := st.gr.fr a u ha ga na
    exact ⟨h1, by rw [ne a (ne_none ha hb)]; exact g1, n1⟩
  · rw [List.length_set]; exact st.en.len
  · by_cases hj : i = j
    · subst hj
      rw [List.getElem?_set] at ej
      simp only [if_true] at ej
      split at ej
      · cases ej
        rw [e1] at eo
        cases eo
        exact ⟨_, rfl, rp⟩
      · cases ej
    · rw [List.getElem?_set_ne hj] at ej
      have q := st.en.at_ j x o ej eo
      cases x with
      | un => trivial
      | dat d1 => obtain ⟨v, e, r⟩ := q; exact ⟨v, e, Rep.mono le (Pre.refl _) _ _ r⟩
      | cel d1 =>
        obtain ⟨q, e, g2, n2, ow2, ni2⟩ := q
        have nq : q ≠ p := fun z => by
          subst z
          subst e
          exact st.en.dis i j d d1 q hj hi ej e1 eo
        exact ⟨q, e, by rw [ne q nq]; exact g2, n2, ow2.mono le (Pre.refl _) fun _ h => h, ni2⟩
      | exn c d1 => trivial
  · have nj : i ≠ j := fun z => by
      subst z
      rw [List.getElem?_set] at e3
      simp only [if_true] at e3
      split at e3 <;> cases e3
    have nk : i ≠ k := fun z => by
      subst z
      rw [List.getElem?_set] at e4
      simp only [if_true] at e4
      split at e4 <;> cases e4
    rw [List.getElem?_set_ne nj] at e3
    rw [List.getElem?_set_ne nk] at e4
    exact st.en.dis j k d1 d2 q hne e3 e4 e5 e6
  · have nj : i ≠ j := fun z => by
      subst z
      rw [List.getElem?_set] at e3
      simp only [if_true] at e3
      split at e3 <;> cases e3
    rw [List.getElem?_set_ne nj] at e3
    exact st.ce j d1 q e3 e4
theorem sss_frz {r : List Stmt} {i : Nat} {ss : Ss} (h2 : SSs X Γ c W r ss) : SSs X Γ c W r (.cons (.frz i) ss) := by
  refine PSs.imp h2 fun D σ H ⟨Gb, Hb, αb, G, α, ρ, μ, sta, w⟩ => ?_
  cases e : slot ρ i with
  | cel d =>
    have e2 : exSs c ρ (.cons (.frz i) ss) μ = exSs c (ρ.set i (.dat d)) ss μ := by
      simp only [exSs, exS, e, nxt, MW.bnd, MW.pur]
    rw [e2] at w
    obtain ⟨G', st'⟩ := sta.frz e
    exact ⟨Gb, Hb, αb, G', α, _, μ, st', w⟩
  | dat d =>
    have e2 : exSs c ρ (.cons (.frz i) ss) μ = exSs c ρ ss μ := by
      simp only [exSs, exS, e, nxt, MW.bnd, MW.pur]
    rw [e2] at w
    exact ⟨Gb, Hb, αb, G, α, ρ, μ, sta, w⟩
  | un =>
    have e2 : exSs c ρ (.cons (.frz i) ss) μ = .bad := by simp only [exSs, exS, e, MW.bnd, MW.bad]
    rw [e2] at w; exact w.elim
  | exn _ _ =>
    have e2 : exSs c ρ (.cons (.frz i) ss) μ = .bad := by simp only [exSs, exS, e, MW.bnd, MW.bad]
    rw [e2] at w; exact w.elim
theorem ss_asg {tg e : Expr} {t : Tg} {te : E} {pos : Pos} (he : SE X Γ c W e te) (hg : PG X tg (gT Γ t)) (hs : swapsWithSole [tg] e pos.line X.env = pure false) (hw : swappedStores [tg] e X.env = pure none) (ha : (assignEach [tg] X.env).map (·.2) = [assign tg X.env]) : SS X Γ c W (.Assign [tg] e pos) (.asg t te) := by
  refine PS.imp (ps_asg he hg hs hw ha) fun D σ H ⟨Gb, Hb, αb, G, α, ρ, μ, st, w⟩ => ?_
  refine tE_mono0 (liftE (c := c) st w) fun v H1 ⟨x, G1, α1, μ1, g, st1, nr, w1⟩ => ?_
  obtain ⟨ρ', ea, w2⟩ := w1.opt
  exact ⟨Gb, Hb, αb, G1, α1, ρ, μ1, x, ρ', st1, nr, ea, fun σ' st' _ => w2 σ' G1 H1 α1 st'⟩
theorem ss_ret {e : Expr} {te : E} {pos : Pos} (he : SE X Γ c W e te) : SS X Γ c W (.Return (some e) pos) (.ret te) := by
  refine PS.imp (ps_ret he) fun D σ H ⟨Gb, Hb, αb, G, α, ρ, μ, st, w⟩ => ?_
  refine tE_mono0 (liftE (c := c) st w) fun v H1 ⟨x, G1, α1, μ1, g, st1, nr, w1⟩ => ?_
  cases x with
  | dat d => exact w1 v G1 H1 α1 st1.gr st1.sm nr.1 fun d z => by cases z
  | frs d => exact w1 v G1 H1 α1 st1.gr st1.sm nr.1 fun d z => by cases z
  | bor d => exact w1.elim
theorem ss_retb {i : Nat} {x : Str} {p pos : Pos} (hN : X.N[i]? = some x) (hv : Vis X.env.scope x) (hd : (x == ("__debug__" : Str)) = false) (hcd : (x == ("__classdict__" : Str)) = false) : SS X Γ c W (.Return (some (.Name x p)) pos) (.retb i) := by
  refine PS.imp (ps_ret (pe_var hN hv hd hcd)) fun D σ H ⟨Gb, Hb, αb, G, α, ρ, μ, st, w⟩ => ?_
  cases e : slot ρ i with
  | dat d =>
    obtain ⟨o, e1, v, rfl, r⟩ := st.en.here (slot_some e (by intro z; cases z))
    simp only [exS, e] at w
    exact ⟨v, e1, w v G H α st.gr st.sm r fun d z => by cases z⟩
  | cel d =>
    have hi := slot_some e (by intro z; cases z)
    obtain ⟨o, e1, p, rfl, gp, np, ow, ni⟩ := st.en.here hi
    simp only [exS, e] at w
    exact ⟨.ref p, e1, w (.ref p) G H α st.gr st.sm ⟨p, rfl, gp, np, ow, st.ce i d p hi e1, ni⟩ fun d z => by cases z⟩
  | _ => simp only [exS, e] at w; exact w.elim
theorem ss_ite {t : Expr} {a b : List Stmt} {tt : E} {sa sb : Ss} {pos : Pos} (h0 : ST X Γ c W t tt) (h1 : SSs X Γ c W a sa) (h2 : SSs X Γ c W b sb) : SS X Γ c W (.If t a b pos) (.ite tt sa sb) := by
  refine PS.imp (ps_if h0 h1 h2) fun D σ H ⟨Gb, Hb, αb, G, α, ρ, μ, st, w⟩ => ?_
  refine tT_mono (liftT (c := c) st w) fun v H1 ⟨G1, α1, μ1, g, st1, w1⟩ => ?_
  cases v with
  | true => exact ⟨Gb, Hb, αb, G1, α1, ρ, μ1, st1, w1⟩
  | false => exact ⟨Gb, Hb, αb, G1, α1, ρ, μ1, st1, w1⟩
theorem ss_brk {pos : Pos} : SS X Γ c W (.Break pos) .brk := PS.imp ps_break fun D σ H ⟨Gb, Hb, αb, G, α, ρ, μ, st, w⟩ => w σ G H α st
theorem ss_cont {pos : Pos} : SS X Γ c W (.Continue pos) .cont := PS.imp ps_continue fun D σ H ⟨Gb, Hb, αb, G, α, ρ, μ, st, w⟩ => w σ G H α st
theorem ss_pass {pos : Pos} : SS X Γ c W (.Pass pos) .pass := PS.imp ps_pass fun D σ H ⟨Gb, Hb, αb, G, α, ρ, μ, st, w⟩ => w σ G H α st
theorem ss_expr {e : Expr} {te : E} {pos : Pos} (he : SE X Γ c W e te) (hs : swapsWith e none pos.line X.env = pure false) : SS X Γ c W (.Expr e pos) (.expr te) := by
  refine PS.imp (ps_expr he hs) fun D σ H ⟨Gb, Hb, αb, G, α, ρ, μ, st, w⟩ => ?_
  exact tE_mono0 (liftE (c := c) st w) fun v H1 ⟨x, G1, α1, μ1, g, st1, nr, w1⟩ => w1 σ G1 H1 α1 st1
end
end MW
namespace MW
open PySem PySem.Spec PyProof.Rows L2
section
variable {X : Cx} {Γ : GX} {c : CL} {W : WX} {σ : L2.St} {ρ ρ' : List Sl} {G H G1 H1 H0 Gb Hb : Hp} {α α1 αb : List Addr} {μ μ1 : Mu} {pins : List (Addr × Obj)} {s : Shared} {tg : Expr} {D : Ends}
theorem Gr.rebase {G2 H2 : Hp} {α2 : List Addr} (g : Gr Gb Hb αb G1 H1 α1) (h : Gr G1 Hb α1 G2 H2 α2) : Gr Gb Hb αb G2 H2 α2 :=
  ⟨g.le.trans h.le, g.pre.trans h.pre, fun a o e ga na => let ⟨_, g1, n1⟩ := g.fr a o e ga na; h.fr a o e g1 n1⟩
theorem Sta.start (st : Sta Γ Gb Hb αb G H α ρ σ μ) : Sta Γ G Hb α G H α ρ σ μ := by
  refine ⟨⟨Le.refl G, Pre.refl α, fun a o e ga na => ?_⟩, st.kp, st.sm, st.en, st.ce⟩
  have gb : Gb a = none := by
    cases q : Gb a with
    | none => rfl
    | some u =>
      rcases st.gr.le a u q with z | ⟨_, ob, z⟩ <;> rw [ga] at z <;> cases z
  have nb : a ∉ αb := fun z => by
    obtain ⟨n, hn⟩ := List.mem_iff_getElem?.mp z
    exact na (List.mem_of_getElem? (st.gr.pre.get hn))
  exact st.gr.fr a o e gb nb
theorem Sta.rebase {G2 H2 : Hp} {α2 : List Addr} (g : Gr Gb Hb αb G1 H1 α1) (st : Sta Γ G1 Hb α1 G2 H2 α2 ρ σ μ) : Sta Γ Gb Hb αb G2 H2 α2 ρ σ μ := ⟨g.rebase st.gr, st.kp, st.sm, st.en, st.ce⟩
theorem WnS.rebase {r : Res Fl} (g : Gr Gb Hb αb G1 H1 α1) (w : WnS Γ W Gb Hb αb D r) : WnS Γ W G1 Hb α1 D r := by
  cases r with
  | ok fl m =>
    cases fl with
    | nx ρ' => exact fun σ' G' H' α' st => w σ' G' H' α' (st.rebase g)
    | brk ρ' => exact fun σ' G' H' α' st => w σ' G' H' α' (st.rebase g)
    | cont ρ' => exact fun σ' G' H' α' st => w σ' G' H' α' (st.rebase g)
    | ret v => exact fun b G' H' α' g' => w b G' H' α' (g.rebase g')
    | exc e d ρ' => exact fun dx σ' G' H' α' st => w dx σ' G' H' α' (st.rebase g)
  | exc _ _ _ => exact w
  | bad => exact w
theorem WnS.body {x : M Fl} {K : List Sl → M Fl} (w : WnS Γ W Gb Hb αb D (MW.bnd x (fun fl => match fl with
      | .nx ρ' => K ρ'
      | .cont ρ' => K ρ'
      | .brk ρ' => MW.pur (.nx ρ')
      | .ret v => MW.pur (.ret v)
      | .exc c d ρ' => MW.pur (.exc c d ρ')) μ)) {N : L2.St → Hp → Prop} (hN : ∀ ρ' μ' σ' G' H' α', Sta Γ Gb Hb αb G' H' α' ρ' σ' μ' → WnS Γ W Gb Hb αb D (K ρ' μ') → N σ' H') : WnS Γ W Gb Hb αb { D with nx := N, ct := N, bk := D.nx } (x μ) := by
  unfold MW.bnd at w
  cases e : x μ with
  | ok fl m =>
    rw [e] at w
    cases fl with
    | nx ρ' => exact fun σ' G' H' α' st => hN ρ' m σ' G' H' α' st w
    | cont ρ' => exact fun σ' G' H' α' st => hN ρ' m σ' G' H' α' st w
    | ret v => exact w
    | brk ρ' => exact w
    | exc cc d ρ' => exact w
  | exc _ _ _ => rw [e] at w; exact w
  | bad => rw [e] at w; exact w
def turnF (c : CL) (t : Tg) (b : Ss) : List Sl → MW.D → M Fl := fun ρ' x => MW.bnd (MW.opt (asgT t (.dat x) ρ')) fun ρ2 => exSs c ρ2 b
def ForI (Γ : GX) (c : CL) (W : WX) (G1 Hb : Hp) (α1 : List Addr) (D : Ends) (t : Tg) (b : Ss) (xs : List MW.D) (i n : Nat) (σ : L2.St) (H : Hp) : Prop :=
  ∃ G α ρ μ, i ≤ xs.length ∧ n = xs.length - i ∧ Sta Γ G1 Hb α1 G H α ρ σ μ ∧ WnS Γ W G1 Hb α1 D (forB (turnF c t b) (xs.drop i) ρ μ)
theorem ss_for (hp : PassesOwn (model X.prog X.w) X.A X.env X.xe) (hc : X.calm = true) {tg iter : Expr} {body : List Stmt} {t : Tg} {it : It} {b : Ss} {pos : Pos} (hi : PI X tg iter (tI Γ c W it)) (hg : PG X tg (gT Γ t)) (hb : SSs X Γ c W body b) (hs : ∀ x, foldedSetIterable iter X.env x = pure x) :
    SS X Γ c W (.For tg iter body [] pos) (.for_ t it b) := by
  refine PS.imp (ps_for hp hc hi hg hb hs) fun D σ H ⟨Gb, Hb, αb, G, α, ρ, μ, st, w⟩ => ?_
  refine ⟨G, α, ρ, μ, st.sm, st.en, (liftW (R := ItR Γ) st w).mono fun J H1 ⟨xs, G1, α1, μ1, g, st1, itr, w1⟩ => ?_⟩
  have w2 := WnS.rebase st1.gr w1
  refine ⟨ForI Γ c W G1 Hb α1 D t b xs, ⟨xs.length, G1, α1, ρ, μ1, Nat.zero_le _, by simp, st1.start, w2⟩, ?_⟩
  rintro i n σ2 H2 ⟨G2, α2, ρ2, μ2, hi2, hn, st2, wf⟩
  obtain ⟨hgo, hst, hy⟩ := itr G2 H2 α2 μ2 st2.gr.le st2.gr.pre st2.sm i
  by_cases hix : i < xs.length
  · refine .inr ⟨hgo hix, ForI Γ c W G1 Hb α1 D t b xs (i + 1) (xs.length - (i + 1)), fun σ' H' q => ⟨xs.length - (i + 1), by omega, q⟩, fun x H3 yl => ?_⟩
    have hxd : xs[i]? = some xs[i] := List.getElem?_eq_getElem hix
    obtain ⟨G3, g3, sm3, rx⟩ := hy x H3 yl _ hxd
    have hdrop : xs.drop i = xs[i] :: xs.drop (i + 1) := (List.drop_eq_getElem_cons hix)
    rw [hdrop] at wf
    generalize xs[i] = d at wf rx
    have st3 := st2.grow g3 sm3
    have wb := WnS.body (K := fun ρ' => forB (turnF c t b) (xs.drop (i + 1)) ρ') (N := ForI Γ c W G1 Hb α1 D t b xs (i + 1) (xs.length - (i + 1))) wf fun ρ' μ' σ' G' H' α' st' w' => ⟨G', α', ρ', μ', hix, rfl, st', w'⟩
    obtain ⟨ρ4, ea, w4⟩ := wb.opt
    exact ⟨G1, Hb, α1, G3, α2, ρ2, μ2, .dat d, ρ4, st3, ⟨rx, fun d e => by cases e⟩, ea, fun σ4 st4 _ => ⟨G1, Hb, α1, G3, α2, ρ4, μ2, st4, w4⟩⟩
  · refine .inl ⟨hst (by omega), ?_⟩
    have e0 : xs.drop i = [] := List.drop_eq_nil_of_le (by omega)
    rw [e0] at wf
    exact wf σ2 G2 H2 α2 st2
def WhlI (Γ : GX) (c : CL) (W : WX) (Gb Hb : Hp) (αb : List Addr) (D : Ends) (t : E) (b : Ss) (n : Nat) (σ : L2.St) (H : Hp) : Prop :=
  ∃ G α ρ μ, Sta Γ Gb Hb αb G H α ρ σ μ ∧ WnS Γ W Gb Hb αb D (whlB (fun ρ' => evb c ρ' t) (fun ρ' => exSs c ρ' b) n ρ μ)
theorem ss_whl (hp : PassesOwn (model X.prog X.w) X.A X.env X.xe) {t : Expr} {body : List Stmt} {tt : E} {b : Ss} {pos : Pos} (h0 : ST X Γ c W t tt) (hb : SSs X Γ c W body b) : SS X Γ c W (.While t body [] pos) (.whl tt b) := by
  refine PS.imp (ps_while hp h0 hb) fun D σ H ⟨Gb, Hb, αb, G, α, ρ, μ, st, w⟩ => ?_
  refine ⟨WhlI Γ c W Gb Hb αb D tt b, ⟨WF, G, α, ρ, μ, st, w⟩, ?_⟩
  rintro n σ2 H2 ⟨G2, α2, ρ2, μ2, st2, w2⟩
  cases n with
  | zero => exact w2.elim
  | succ n =>
    refine tT_mono (liftT (c := c) st2 w2) fun v H3 ⟨G3, α3, μ3, g3, st3, w3⟩ => ?_
    cases v with
    | true =>
      rw [if_pos rfl] at w3 ⊢
      have wb := WnS.body (K := fun ρ' => whlB (fun ρ' => evb c ρ' tt) (fun ρ' => exSs c ρ' b) n ρ') (N := WhlI Γ c W Gb Hb αb D tt b n) w3 fun ρ' μ' σ' G' H' α' st' w' => ⟨G', α', ρ', μ', st', w'⟩
      exact ⟨WhlI Γ c W Gb Hb αb D tt b n, fun σ' H' q => ⟨n, Nat.lt_succ_self n, q⟩, Gb, Hb, αb, G3, α3, ρ2, μ3, st3, wb⟩
    | false =>
      rw [if_neg Bool.false_ne_true] at w3 ⊢
      exact w3 σ2 G3 H3 α3 st3
end
end MW
namespace MW
open PySem PySem.Spec PyProof.Rows L2
section
variable {X : Cx} {Γ : GX} {c : CL} {W : WX} {σ : L2.St} {ρ ρ' : List Sl} {G H G1 H1 H0 Gb Hb : Hp} {α α1 αb : List Addr} {μ μ1 : Mu} {pins : List (Addr × Obj)} {s : Shared} {tg : Expr} {D : Ends}
theorem Sta.wcell {i : Nat} {d d' : MW.D} {p : Addr} {o : HO} (st : Sta Γ Gb Hb αb G H α ρ σ μ) (hi : ρ[i]? = some (.cel d)) (hs : σ[i]? = some (some (.ref p))) (ow : Own Γ G (upd H p o) α p d') (ni : ∀ cc fs, d' ≠ .ins cc fs) : Sta Γ Gb Hb αb G (upd H p o) α (ρ.set i (.cel d')) σ μ := by
  obtain ⟨p', e, gp, np, _, _⟩ := st.en.at_ i _ _ hi hs
  cases e
  have hb := st.ce i d p hi hs
  have hl : i < ρ.length := (List.getElem?_eq_some_iff.mp hi).1
  refine ⟨st.gr.wr hb, fun a u e => ?_, st.sm.wr gp np, ⟨?_, fun j x o' ej eo => ?_, fun j k d1 d2 q hne e3 e4 e5 e6 => ?_⟩, fun j d1 q e3 e4 => ?_⟩
  · obtain ⟨u', e'⟩ := st.kp a u e
    by_cases hq : a = p
    · subst hq; exact ⟨o, upd_same⟩
    · exact ⟨u', by rw [upd_ne hq]; exact e'⟩
  · rw [List.length_set]; exact st.en.len
  · by_cases hj : i = j
    · subst hj
      rw [List.getElem?_set_self hl] at ej
      cases ej
      rw [hs] at eo
      cases eo
      exact ⟨p, rfl, gp, np, ow, ni⟩
    · rw [List.getElem?_set_ne hj] at ej
      have q := st.en.at_ j x o' ej eo
      cases x with
      | un => trivial
      | dat d1 => exact q
      | cel d1 =>
        obtain ⟨q, e, g2, n2, ow2, ni2⟩ := q
        have nq : q ≠ p := fun z => by
          subst z
          subst e
          exact st.en.dis i j d d1 q hj hi ej hs eo
        exact ⟨q, e, g2, n2, ow2.mono (Le.refl _) (Pre.refl _) fun _ h => by rw [upd_ne nq]; exact h, ni2⟩
      | exn c d1 => trivial
  · have back : ∀ (j : Nat) (d1 : MW.D), (ρ.set i (.cel d'))[j]? = some (.cel d1) → ∃ d0, ρ[j]? = some (.cel d0) := fun j d1 e => by
      by_cases hj : i = j
      · subst hj; exact ⟨d, hi⟩
      · rw [List.getElem?_set_ne hj] at e; exact ⟨d1, e⟩
    obtain ⟨a, ea⟩ := back j d1 e3
    obtain ⟨b, eb⟩ := back k d2 e4
    exact st.en.dis j k a b q hne ea eb e5 e6
  · by_cases hj : i = j
    · subst hj
      exact st.ce i d q hi e4
    · rw [List.getElem?_set_ne hj] at e3
      exact st.ce j d1 q e3 e4
theorem cel_at {i : Nat} {d : MW.D} (st : Sta Γ Gb Hb αb G H α ρ σ μ) (e : slot ρ i = .cel d) : ρ[i]? = some (.cel d) ∧ ∃ p, σ[i]? = some (some (.ref p)) ∧ G p = none ∧ p ∉ α ∧ Own Γ G H α p d := by
  have hi := slot_some e (by intro z; cases z)
  obtain ⟨o, e1, p, rfl, gp, np, ow, _⟩ := st.en.here hi
  exact ⟨hi, p, e1, gp, np, ow⟩
structure NmV (X : Cx) (i : Nat) (x : Str) : Prop where
  at_ : X.N[i]? = some x
  vis : Vis X.env.scope x
  hd : (x == ("__debug__" : Str)) = false
  hcd : (x == ("__classdict__" : Str)) = false
theorem ss_app {i : Nat} {x : Str} {e : Expr} {te : E} {p apos cpos pos : Pos} (hv : NmV X i x) (he : SE X Γ c W e te) (hn : ∀ x p, e ≠ .Starred x p) (m : Mth X (.Name x p) "append" apos cpos) (hs : swapsWith (.Call (.Attribute (.Name x p) "append" apos) [e] [] cpos) none pos.line X.env = pure false) :
    SS X Γ c W (.Expr (.Call (.Attribute (.Name x p) "append" apos) [e] [] cpos) pos) (.app i te) := by
  have hx := pe_var (pos := p) hv.at_ hv.vis hv.hd hv.hcd
  refine PS.imp (ps_expr (pe_bm PySem.F.plainAttrs_list PySem.F.slot_list_append PySem.F.type_list_append mt_append hx (pa_cons he.frz pa_nil (star_ne hn)) m.base (few1 hn) m.line (star_ne hn) rfl) hs) fun D σ H ⟨Gb, Hb, αb, G, α, ρ, μ, st, w⟩ => ?_
  cases es : slot ρ i with
  | cel d =>
    cases d with
    | lst xs =>
      simp only [exS, es] at w
      obtain ⟨hi, q, e1, gq, nq, ow⟩ := cel_at st es
      obtain ⟨vs, hq, rl⟩ := ow
      refine ⟨.ref q, e1, .inl ⟨rfl, vs, SqL.of hq⟩, ?_⟩
      refine tF_mono (liftF (c := c) st w) fun v H1 ⟨d, G1, α1, μ1, g, st1, rd, w1⟩ => ?_
      obtain ⟨d', ea, w2⟩ := w1.opt
      obtain ⟨hq1, gq1, nq1⟩ := g.fr q _ hq gq nq
      have rl1 := RepL.mono g.le g.pre _ _ rl
      by_cases hl : xs.length < LINE
      · simp only [appD, if_pos hl, Option.some.injEq] at ea
        subst ea
        have ln := rl.length
        have lq := LINE_eq
        refine ⟨q, vs, v, rfl, rfl, hq1, by omega, ?_⟩
        exact w2 σ G1 _ α1 (st1.wcell hi e1 ⟨vs ++ [v], upd_same, rl1.append (RepL.cons rd RepL.nil)⟩ fun _ _ z => by cases z)
      · simp only [appD, if_neg hl, reduceCtorEq] at ea
    | _ => simp only [exS, es] at w; exact w.elim
  | _ => simp only [exS, es] at w; exact w.elim
theorem ss_seti (F : Fit X Γ c W) {i : Nat} {x : Str} {k v : Expr} {tk tv : E} {p p2 pos : Pos} (hx : NmV X i x) (hk : SE X Γ c W k tk) (hv : SE X Γ c W v tv) (hs : swapsWith v (some (.Subscript (.Name x p) k p2)) pos.line X.env = pure false) :
    SS X Γ c W (.Assign [.Subscript (.Name x p) k p2] v pos) (.seti i tk tv) := by
  have hx' := pe_var (pos := p) hx.at_ hx.vis hx.hd hx.hcd
  refine ⟨fun pins s σ H D I ⟨Gb, Hb, αb, G, α, ρ, μ, st, w⟩ => ?_⟩
  cases es : slot ρ i with
  | cel d0 =>
    simp only [exS, es] at w
    refine wpAny_Assign_Subscript (thn (hv.frz.run pins s σ H _ I (liftF (c := c) st w)) fun r s1 ⟨y, H1, I1, ry, d, G1, α1, μ1, g1, st1, rd, w1⟩ => ?_) hs
    obtain ⟨hi, q, e1, gq, nq, ow⟩ := cel_at st1 es
    refine thn (hx'.run pins s1 σ H1 (fun v H' => v = .ref q ∧ H' = H1) I1 ⟨_, e1, rfl, rfl⟩) fun u s2 ⟨xv, H2, I2, rx, ex, eh⟩ => ?_
    subst ex
    subst eh
    cases rx
    refine thn (hk.frz.run pins s2 σ H2 _ I2 (liftF (c := c) st1 w1)) fun iv s3 ⟨kv, H3, I3, rk, kd, G3, α3, μ3, g3, st3, rkd, w3⟩ => ?_
    obtain ⟨q1, ep, w5⟩ := w3.opt
    obtain ⟨gq3, nq3, ow3⟩ := ow.grow g3 gq nq
    have rd3 := Rep.mono g3.le g3.pre _ _ rd
    cases d0 with
    | lst xs =>
      cases kd <;> simp only [putD, reduceCtorEq, Option.map_eq_some_iff, Bool.and_eq_true, ite_eq_right_iff] at ep
      rename_i j
      obtain ⟨n, en, rfl⟩ := ep
      simp only [Rep] at rkd
      subst rkd
      obtain ⟨vs, hq, rl⟩ := ow3
      refine thn (set_list pins s3 σ H3 (.ref q) (.int j) y (.ref q) iv r (fun H' => H' = upd H3 q (.lst (vs.set n y))) I3 rfl rk ry ⟨q, vs, j, n, rfl, rfl, hq, by rw [← rl.length]; exact en, rfl⟩) fun _ s4 ⟨H4, I4, e4⟩ => ?_
      subst e4
      exact ⟨σ, _, I4, w5 σ G3 _ α3 (st3.wcell hi e1 ⟨vs.set n y, upd_same, rl.set rd3⟩ fun _ _ z => by cases z)⟩
    | dct kvs =>
      by_cases hk' : (keyOk kd && decide (kvs.length < LINE)) = true
      · have ep' : q1 = .dct (dput kvs kd d) := by
          have : putD (.dct kvs) kd d = some (.dct (dput kvs kd d)) := by
            unfold putD
            cases kd <;> first | exact if_pos hk' | (simp [keyOk] at hk')
          rw [this] at ep
          exact (Option.some.inj ep).symm
        subst ep'
        rw [Bool.and_eq_true, decide_eq_true_eq] at hk'
        exact put_ok F (Nat.le_succ _) I3 st3.sm gq3 nq3 ow3 hk'.1 rkd rd3 rk ry hk'.2 fun s4 es4 I4 r4 => ⟨σ, _, I4, w5 σ G3 _ α3 (st3.wcell hi e1 ⟨es4, upd_same, r4⟩ fun _ _ z => by cases z)⟩
      · have : putD (.dct kvs) kd d = none := by
          unfold putD
          cases kd <;> exact if_neg hk'
        rw [this] at ep; cases ep
    | _ => cases kd <;> simp [putD] at ep
  | _ => simp only [exS, es] at w; exact w.elim
theorem sdef_ok (F : Fit X Γ c W) {p : Addr} {kvs : List (MW.D × MW.D)} {k d : MW.D} {x v : V} {u r : Value} {Q : Value → Shared → Prop} (I : Inv X pins σ H s) (sm : Sim Γ G H α μ) (gp : G p = none) (np : p ∉ α) (ow : Own Γ G H α p (.dct kvs)) (hk : keyOk k = true) (rk : Rep Γ G α k x) (rd : Rep Γ G α d v) (rx : RelV x u) (rv : RelV v r) (hl : kvs.length < LINE)
    (h : ∀ w' s' o, Inv X pins σ (upd H p o) s' → (∃ z, RelV z w') → Own Γ G (upd H p o) α p (if (assoc kvs k).isSome then .dct kvs else .dct (dput kvs k d)) → Q w' s') :
    wpAny (model X.prog X.w) X.A (call (.builtin "dict.setdefault") [.ref p, u, r]) Q X.xe s := by
  obtain ⟨es, e, rep⟩ := ow
  obtain ⟨kk, a, nk, rfl, rfl, is, rx'⟩ := key_at I sm hk (.inl rk) rx
  obtain ⟨hd, hz, ys, pr, dd⟩ := dict_of I sm ⟨F.P, F.w⟩ (.inl e) rep
  have nd : (es.map (·.1)).Nodup := by
    obtain ⟨_, _, _, _, _, _, _, _, h5⟩ := dd
    rw [← EntP.keys pr]; exact h5
  have el := rep.length
  have pl := Paired.length pr
  have le := LINE_eq
  have ak := assoc_key I rep pr nk
  have av := atV_at (k := kk) pr
  refine call_setdefault_heap (hsz := by omega) (room8 F) is hd dd (fun q hq => ?_) fun hq h' dd' hs => ?_
  · rw [hq] at ak av
    cases e2 : atV es kk with
    | none => rw [e2] at av; exact (show False from av).elim
    | some z =>
      rw [e2] at av
      have same : upd H p (dicHO Γ.P Γ.w p es) = H := by
        funext b
        by_cases hb : b = p
        · subst hb; rw [upd_same]; exact e.symm
        · rw [upd_ne hb]
      refine h _ _ (dicHO Γ.P Γ.w p es) (by rw [same]; exact I.tok _) ⟨z, av⟩ ?_
      rw [if_pos (show (assoc kvs k).isSome = true from ak.symm)]
      exact ⟨es, upd_same, rep⟩
  · rw [hq] at ak av
    have e2 : atV es kk = none := by
      cases e2 : atV es kk with
      | none => rfl
      | some z => rw [e2] at av; exact (show False from av).elim
    have he : ∃ q, h'.get? p = some q := let ⟨q, _, _, hq, _⟩ := dd'; ⟨q, hq⟩
    have I2 := d_write (t' := s.toks + (nestedKind X.prog X.w).draws kk) I (by rw [e]; exact True.intro) hs he (dic_new (dic_of (es := putV es kk a v) hd (by have := putV_len (es := es) (k := kk) (a := a) (v := v); omega) (putV_pair pr rv) dd'))
    refine h _ _ (dicHO Γ.P Γ.w p (putV es kk a v)) (by rw [F.P, F.w]; exact I2) ⟨v, rv⟩ ?_
    rw [if_neg (by rw [← ak]; simp)]
    exact ⟨_, upd_same, dput_rep rep nd hk nk rx' rd⟩
theorem two_args {e f : Expr} {env : Env} {cpos : Pos} (hn : ∀ x p, e ≠ .Starred x p) (hn2 : ∀ x p, f ≠ .Starred x p) : backTo cpos (starEach [e, f] env) = [(false, eval e env), (false, eval f env)] := by
  rw [star_ne hn, star_ne hn2]; rfl
theorem ss_sdef (F : Fit X Γ c W) {i : Nat} {x : Str} {k v : Expr} {tk tv : E} {p apos cpos pos : Pos} (hx : NmV X i x) (hk : SE X Γ c W k tk) (hv : SE X Γ c W v tv) (hn : ∀ x p, k ≠ .Starred x p) (hn2 : ∀ x p, v ≠ .Starred x p) (m : Mth X (.Name x p) "setdefault" apos cpos) (hs : swapsWith (.Call (.Attribute (.Name x p) "setdefault" apos) [k, v] [] cpos) none pos.line X.env = pure false) :
    SS X Γ c W (.Expr (.Call (.Attribute (.Name x p) "setdefault" apos) [k, v] [] cpos) pos) (.sdef i tk tv) := by
  have hx' := pe_var (pos := p) hx.at_ hx.vis hx.hd hx.hcd
  have key : PE X (.Call (.Attribute (.Name x p) "setdefault" apos) [k, v] [] cpos) (fun σ H Q => ∃ D : Ends, tS Γ c W (.sdef i tk tv) D σ H ∧ ∀ H', D.nx σ H' → ∀ z, Q z H') := by
    refine ⟨fun pins s σ H Q I ⟨D, ⟨Gb, Hb, αb, G, α, ρ, μ, st, w⟩, hq⟩ => ?_⟩
    cases es : slot ρ i with
    | cel d0 =>
      cases d0 with
      | dct kvs =>
        simp only [exS, es] at w
        obtain ⟨hi, q, e1, gq, nq, ow⟩ := cel_at st es
        refine wpAny_Call_method m.base (by rw [two_args hn hn2]; rfl) m.line PySem.F.plainAttrs_dict PySem.F.slot_dict_setdefault PySem.F.type_dict_setdefault (thn (hx'.run pins s σ H (fun v H' => v = .ref q ∧ H' = H) I ⟨_, e1, rfl, rfl⟩) fun u s1 ⟨xv, H1, I1, rx, ex, eh⟩ => ?_)
        subst ex
        subst eh
        cases rx
        obtain ⟨es0, eo, rep⟩ := ow
        obtain ⟨hd, hz, ys, pr, dd⟩ := dict_of I1 st.sm ⟨F.P, F.w⟩ (.inl eo) rep
        refine ⟨dd.typeIs, fun b eb => ?_, ?_⟩
        · cases eb
          obtain ⟨ob, _, _, h1, h2, _⟩ := dd
          exact ⟨ob, h1, h2.2.1⟩
        rw [two_args hn hn2]
        refine Calls.callWith_builtin rfl (Calls.evalArgs_plain (Calls.spliced_cons (thn (hk.frz.run pins s1 σ _ _ I1 (liftF (c := c) st w)) fun kv s2 ⟨kx, H2, I2, rk, kd, G2, α2, μ2, g2, st2, rkd, w2⟩ => Calls.spliced_cons (thn (hv.frz.run pins s2 σ H2 _ I2 (liftF (c := c) st2 w2)) fun vv s3 ⟨vx, H3, I3, rv, vd, G3, α3, μ3, g3, st3, rvd, w3⟩ => Calls.spliced_nil ?_))))
        obtain ⟨q1, ep, w5⟩ := w3.opt
        have ow : Own Γ G _ α q (.dct kvs) := ⟨es0, eo, rep⟩
        obtain ⟨gq2, nq2, ow2⟩ := ow.grow g2 gq nq
        obtain ⟨gq3, nq3, ow3⟩ := ow2.grow g3 gq2 nq2
        have rk3 := Rep.mono g3.le g3.pre _ _ rkd
        unfold sdefD at ep
        by_cases hk' : (keyOk kd && decide (kvs.length < LINE)) = true
        · simp only [if_pos hk', Option.some.injEq] at ep
          rw [Bool.and_eq_true, decide_eq_true_eq] at hk'
          refine sdef_ok F I3 st3.sm gq3 nq3 ow3 hk'.1 rk3 rvd rk rv hk'.2 fun w' s4 o I4 ⟨z, rz⟩ ow4 => ?_
          subst ep
          refine ⟨z, _, I4, rz, hq _ (w5 σ G3 _ α3 (st3.wcell hi e1 ow4 fun cc fs z => ?_)) z⟩
          split at z <;> cases z
        · simp only [if_neg hk', reduceCtorEq] at ep
      | _ => simp only [exS, es] at w; exact w.elim
    | _ => simp only [exS, es] at w; exact w.elim
  exact PS.imp (ps_expr key hs) fun D σ H q => ⟨D, q, fun H' h z => h⟩
theorem sa_star {e : Expr} {es : List Expr} {t : E} {ts : Es} {p : Pos} (h1 : SE X Γ c W e t) (h2 : SA X Γ c W es ts) : SA X Γ c W (.Starred e p :: es) (.cons true t ts) := by
  refine ⟨fun pos pins s σ H Q I ⟨G, α, ρ, μ, sm, en, w⟩ => ?_⟩
  refine PySem.W.items_star (thn (h1.run pins s σ H _ I (one (c := c) sm en w)) fun v s1 ⟨x, H1, I1, r1, xa, G1, α1, μ1, k1, g1, sm1, en1, d1, w1⟩ => ?_) rfl
  obtain ⟨xs, e1, w2⟩ := w1.opt
  have dr := d1.datR
  generalize xa.d = d at dr e1
  have fin : ∀ (a : Addr) (vs : List V), v = .ref a → (SqT X.K H1 a vs ∨ SqL X.K H1 a vs) → RepL Γ G1 α1 xs vs → PySem.W.StarOf (model X.prog X.w) X.A X.xe v (fun here s₂ => wpAny (model X.prog X.w) X.A (spliced (backTo pos (starEach es X.env))) (fun vs s₃ => AP X pins σ Q (here ++ vs) s₃) X.xe s₂) s1 := by
    intro a vs ev hs rl
    subst ev
    refine StX.star_any I1 hs fun us s2 I2 ru => ?_
    refine thn (h2.run pos pins s2 σ H1 _ I2 (many (c := c) sm1 en1 w2)) fun us2 s3 ⟨vs2, H3, I3, ru2, ds, G3, α3, μ3, k3, g3, sm3, en3, r3, w3⟩ => ?_
    exact ⟨vs ++ vs2, H3, I3, ru.append ru2, w3.pur sm3 (show LR Γ G3 H3 α3 (xs ++ ds) (vs ++ vs2) from (RepL.mono g3.le g3.pre _ _ rl).append r3)⟩
  cases d <;> simp only [seqOf, reduceCtorEq, Option.some.injEq] at e1
  · subst e1
    obtain ⟨a, vs, rfl, g, rl⟩ := RdR.tup sm1 (dr.look sm1)
    cases r1
    exact fin a vs rfl (.inl (SqT.of g)) rl
  · subst e1
    obtain ⟨a, vs, rfl, g, rl⟩ := RdR.lst sm1 (dr.look sm1)
    cases r1
    exact fin a vs rfl (.inr (SqL.of g)) rl
end
end MW
namespace MW
open PySem PySem.Spec PyProof.Rows L2
structure VC where
  sc : Scope
  N : List Str
  top : Bool
  gl : Str → Option D
  fn : Str → Option (Nat × Nat)
def VC.blk (v : VC) (scope : Scope) : VC := { v with sc := relS scope v.sc, top := false }
def kd (sc : Scope) (x : Str) : Option NameKind := sc.names.lookup x
def VC.vis (v : VC) (x : Str) : Bool := decide (kd v.sc x = some .local) || decide (kd v.sc x = some .cell) || decide (kd v.sc x = some .free)
def VC.loc (v : VC) (x : Str) : Bool := decide (kd v.sc x = some .local) || decide (kd v.sc x = some .cell)
def VC.glo (v : VC) (x : Str) : Bool := decide (kd v.sc x = some .globalImplicit)
def ordX (x : Str) : Bool := !(x == ("__debug__" : Str)) && !(x == ("__classdict__" : Str)) && !decide (x = ("__name__" : Str))
def VC.nm (v : VC) (i : Nat) (x : Str) : Bool := decide (v.N[i]? = some x) && v.vis x && ordX x
def VC.st (v : VC) (i : Nat) (x : Str) : Bool := decide (v.N[i]? = some x) && v.loc x && (v.top || decide (kd v.sc x = some .local))
def nst : Expr → Bool
  | .Starred _ _ => false
  | _ => true
def plainT : Expr → Bool
  | .Name _ _ => true
  | .Call _ _ _ _ => true
  | .Subscript _ _ _ => true
  | .Constant _ _ _ => true
  | .Attribute _ _ _ => true
  | .BinOp _ _ _ _ => true
  | .Tuple _ _ _ => true
  | .List _ _ => true
  | .ListComp _ _ _ _ => true
  | _ => false
def notSet : Expr → Bool
  | .Set _ _ _ => false
  | _ => true
def blkB (N : List Str) (sc scope : Scope) (own : List (Str × Nat)) : Bool :=
  decide (scope.kind = .function) && scope.names.all (fun y => decide (scope.names.lookup y.1 = some y.2)) && own.all (fun p => decide (N[p.2]? = some p.1)) &&
  scope.names.all (fun y => !decide (y.2 = .free) || decide (sc.names.lookup y.1 = some .cell) || decide (sc.names.lookup y.1 = some .free)) &&
  scope.names.all (fun y => !(decide (y.2 = .local) || decide (y.2 = .cell)) || (own.map (·.1)).contains y.1 || !N.contains y.1)
def ownOf (N : List Str) (l : List Nat) : List (Str × Nat) := l.filterMap fun i => (N[i]?).map fun x => (x, i)
def isNm : Expr → Bool
  | .Name _ _ => true
  | _ => false
def eqC : D → D → Bool
  | .non, .non => true
  | .bl a, .bl b => a == b
  | .int a, .int b => a == b
  | .str a, .str b => a == b
  | _, _ => false
mutual
def okTg (v : VC) : Tg → Expr → Bool
  | .nm i, .Name x _ => v.st i x
  | .tp ts, .Tuple es _ _ => okTgs v ts es
  | _, _ => false
def okTgs (v : VC) : List Tg → List Expr → Bool
  | [], [] => true
  | t :: ts, e :: es => okTg v t e && nst e && okTgs v ts es
  | _, _ => false
end
def gd (q : Bool) (t : E) (e : Expr) : Bool := match t with
  | .and _ _ => true
  | .or _ _ => true
  | .not _ => true
  | .cmp _ _ _ => true
  | .chn _ _ _ _ _ => true
  | _ => !q || plainT e
mutual
def okE (v : VC) (q : Bool) (t : E) (e : Expr) : Bool := gd q t e && match t with
  | .con d => match e with
    | .Constant k _ _ => conOk k d
    | .Name x _ => v.glo x && ordX x && decide ((v.gl x).isSome) && (match v.gl x with | some d' => eqC d' d | none => false)
    | _ => false
  | .var i => match e with
    | .Name x _ => v.nm i x
    | _ => false
  | .bor i => match e with
    | .Name x _ => v.nm i x
    | _ => false
  | .tup ts => match e with
    | .Tuple es _ _ => okEs v ts es
    | _ => false
  | .lst ts => match e with
    | .List es _ => okEs v ts es
    | _ => false
  | .dnil => match e with
    | .Dict [] [] _ => true
    | _ => false
  | .done a b => match e with
    | .Dict [some k] [x] _ => okE v false a k && okE v false b x
    | _ => false
  | .bin o a b => match e with
    | .BinOp x p y _ => decide (p = o.op) && okE v false a x && okE v false b y
    | _ => false
  | .neg a => match e with
    | .UnaryOp .USub x _ => okE v false a x
    | _ => false
  | .cmp o a b => match e with
    | .Compare x [p] [y] _ => decide (p = o.op) && okE v false a x && okE v false b y && !behindInMarks p y
    | _ => false
  | .chn o o2 a b d => match e with
    | .Compare x [p, p2] [y, z] _ => decide (p = o.op) && decide (p2 = o2.op) && okE v false a x && okE v false b y && okE v false d z && !lastMarks [p, p2] [y, z]
    | _ => false
  | .and a b => match e with
    | .BoolOp .And [x, y] _ => okE v q a x && okE v q b y
    | .BoolOp .And (x :: y :: z :: r) p => okE v q a x && okE v q b (.BoolOp .And (y :: z :: r) p)
    | _ => false
  | .or a b => match e with
    | .BoolOp .Or [x, y] _ => okE v q a x && okE v q b y
    | .BoolOp .Or (x :: y :: z :: r) p => okE v q a x && okE v q b (.BoolOp .Or (y :: z :: r) p)
    | _ => false
  | .not a => match e with
    | .UnaryOp .Not x _ => okE v q a x
    | _ => false
  | .ite a b d => match e with
    | .IfExp x y z _ => okE v true a x && okE v false b y && okE v false d z
    | _ => false
  | .idx a b => match e with
    | .Subscript x y _ => okE v false a x && okE v false b y && notSl y
    | _ => false
  | .call f ts => match e with
    | .Call (.Name x _) as [] _ => (match v.fn x with | some (g, _) => decide (g = f) | none => false) && v.glo x && ordX x && okEs v ts as && as.all nst
    | _ => false
  | .b1 o a => match e with
    | .Call (.Name x _) [y] [] _ =>
      if o.one then decide (x = o.nm) && v.glo x && okE v false a y && nst y
      else decide (x = ("len" : Str)) && v.glo x && v.glo "set" && (match y with
        | .Call (.Name z _) [w] [] _ => decide (z = ("set" : Str)) && okE v false a w && nst w
        | _ => false)
    | _ => false
  | .isi a ty => match e with
    | .Call (.Name x _) [y, .Name z _] [] _ => decide (x = ("isinstance" : Str)) && v.glo x && okE v false a y && nst y && (match ty.val with
      | some (n, _) => decide (n = z) && v.glo z
      | none => false)
    | _ => false
  | .index a b => match e with
    | .Call (.Attribute x m ap) [y] [] cp => decide (m = ("index" : Str)) && isNm x && (ap.endLine == cp.line) && okE v false a x && okE v false b y && nst y
    | _ => false
  | .comp te (.cons t it cs .nil) => match e with
    | .ListComp x [⟨tg, iter, ifs, 0⟩] scope _ => okI v it tg iter && blkB v.N v.sc scope (ownOf v.N (tgOwn t ++ [])) && decide ((ownOf v.N (tgOwn t ++ [])).map (·.2) = tgOwn t ++ []) && okTg (v.blk scope) t tg && okC (v.blk scope) cs ifs && okE (v.blk scope) false te x && notSet iter
    | _ => false
  | _ => false
termination_by structural t
def okEs (v : VC) (t : Es) (es : List Expr) : Bool := match t with
  | .nil => match es with
    | [] => true
    | _ => false
  | .cons st a r => match es with
    | .Starred x _ :: xs => st && okE v false a x && okEs v r xs
    | x :: xs => !st && nst x && okE v false a x && okEs v r xs
    | [] => false
termination_by structural t
def okC (v : VC) (t : Es) (es : List Expr) : Bool := match t with
  | .nil => match es with
    | [] => true
    | _ => false
  | .cons _ a r => match es with
    | [x] => okE v true a x && (match r with | .nil => true | _ => false)
    | _ => false
termination_by structural t
def okI (v : VC) (t : It) (tg e : Expr) : Bool := match t with
  | .rng a b => match e with
    | .Call (.Name x _) [y] [] _ => decide (x = ("range" : Str)) && v.glo x && (match a with | .con (.int i) => i == 0 | _ => false) && okE v false b y && nst y
    | .Call (.Name x _) [y, z] [] _ => decide (x = ("range" : Str)) && v.glo x && okE v false a y && okE v false b z && nst y && nst z
    | _ => false
  | .seq a => okE v false a e
  | .enum a => match tg, e with
    | .Tuple _ _ _, .Call (.Name x _) [y] [] _ => decide (x = ("enumerate" : Str)) && v.glo x && okE v false a y && nst y
    | _, _ => false
  | .zip a b => match tg, e with
    | .Tuple _ _ _, .Call (.Name x _) [y, z] [] _ => decide (x = ("zip" : Str)) && v.glo x && okE v false a y && okE v false b z && nst y && nst z
    | _, _ => false
termination_by structural t
end
end MW
namespace MW
open PySem PySem.Spec PyProof.Rows L2
def btNames : List Str := ["len", "sum", "max", "min", "all", "any", "sorted", "abs", "tuple", "list", "int", "str", "set", "isinstance", "range", "enumerate", "zip", "bool"]
structure VCok (v : VC) (X : Cx) (Γ : GX) (c : CL) (W : WX) : Prop where
  sc : X.env.scope = v.sc
  N : X.N = v.N
  nd : X.N.Nodup
  top : v.top = true → ∀ x, X.fn x = true
  calm : X.calm = true
  gl : ∀ x d, v.gl x = some d → scl d = true ∧ ∃ u, X.mg x = some u ∧ RelV (sclV d) u
  fn : ∀ x f np, v.fn x = some (f, np) → DefOk X Γ c f x np
  bt : ∀ x ∈ btNames, X.mg x = none
  P : Γ.P = X.prog
  w : Γ.w = X.w
  K : Γ.K = X.K
  hu : X.A.units + 100 < cLine
  flds : c.flds = Γ.flds
  eqn : ∀ cc, c.eqf.getD cc none = none
  lenn : ∀ cc, c.lenf.getD cc none = none
  ii : InsIsi X Γ
  tk : Takes X W
section
variable {X : Cx} {Γ : GX} {c : CL} {W : WX} {v : VC} {tg : Expr}
theorem VCok.fit (h : VCok v X Γ c W) : Fit X Γ c W := by
  refine ⟨h.P, h.w, h.K, h.hu, h.flds, ?_⟩
  intro A B R kk Q σ G H H0 α μ pins s o a b x y v u cc fs ho hc _ _ _ _ _ _ _ w
  have e : cmpE c o a b μ = .bad := by
    show cmpX c o a b (content a μ) (content b μ) μ = _
    rw [hc]
    unfold cmpX
    rcases ho with rfl | rfl
    · simp only [h.eqn cc]; rfl
    · simp only [h.eqn cc]; rfl
  unfold MW.bnd at w
  rw [e] at w
  exact w.elim
theorem VCok.il (h : VCok v X Γ c W) : InsLen X Γ c W := by
  intro σ G H H0 α μ pins s d x u cc fs Q _ _ _ _ _ _ w
  have e : b1E c .len d (.ins cc fs) μ = .bad := by
    unfold b1E
    simp only [h.lenn cc]; rfl
  rw [e] at w
  exact w.elim
theorem VCok.blk (h : VCok v X Γ c W) (s : Shared) (H : Hp) (scope : Scope) (cl : List (Str × Addr)) (C : Addr) (fp : List Addr) : VCok (v.blk scope) (X.blk s H scope (compEnvC scope cl C X.env) fp) Γ c W0 where
  sc := by
    show relS scope X.env.scope = relS scope v.sc
    rw [h.sc]
  N := h.N
  nd := h.nd
  top := fun z => by cases z
  calm := h.calm
  gl := h.gl
  fn := fun x f np e => let q := h.fn x f np e; ⟨q.ex, q.len⟩
  bt := h.bt
  P := h.P
  w := h.w
  K := h.K
  hu := h.hu
  flds := h.flds
  eqn := h.eqn
  lenn := h.lenn
  ii := h.ii
  tk := takes0
theorem VCok.gg (h : VCok v X Γ c W) {x : Str} (e : v.glo x = true) : Gl X x := by
  show X.env.scope.names.lookup x = _
  rw [h.sc]
  exact of_decide_eq_true e
theorem ordX_at {x : Str} (e : ordX x = true) : (x == ("__debug__" : Str)) = false ∧ (x == ("__classdict__" : Str)) = false ∧ x ≠ "__name__" := by
  simp only [ordX, Bool.and_eq_true, Bool.not_eq_true', decide_eq_false_iff_not] at e
  exact ⟨e.1.1, e.1.2, e.2⟩
theorem VCok.nmv (h : VCok v X Γ c W) {i : Nat} {x : Str} (e : v.nm i x = true) : NmV X i x := by
  simp only [VC.nm, Bool.and_eq_true, decide_eq_true_eq] at e
  obtain ⟨o1, o2, _⟩ := ordX_at e.2
  refine ⟨by rw [h.N]; exact e.1.1, ?_, o1, o2⟩
  have q := e.1.2
  simp only [VC.vis, Bool.or_eq_true, decide_eq_true_eq, kd] at q
  rw [← h.sc] at q
  rcases q with (q | q) | q
  · exact .inl (of_decide_eq_true q)
  · exact .inr (.inl (of_decide_eq_true q))
  · exact .inr (.inr (of_decide_eq_true q))
theorem nst_at {e : Expr} (h : nst e = true) : ∀ x p, e ≠ .Starred x p := fun x p z => by rw [z] at h; cases h
theorem plain_at {e : Expr} {env : Env} (h : plainT e = true) : ∀ whole, isTrue e env whole = (do let v ← whole; standAt e.pos; holding [v] (truthy v)) := by
  intro whole
  cases e <;> first | rfl | exact absurd (show false = true from h) Bool.false_ne_true
theorem set_at {e : Expr} {env : Env} (h : notSet e = true) : ∀ x, foldedSetIterable e env x = pure x := by
  intro x
  cases e <;> first | rfl | exact absurd (show false = true from h) Bool.false_ne_true
theorem blk_at {N : List Str} {sc scope : Scope} {own : List (Str × Nat)} (h : blkB N sc scope own = true) : BlkOk N sc scope own := by
  simp only [blkB, Bool.and_eq_true, List.all_eq_true, decide_eq_true_eq, Bool.or_eq_true, Bool.not_eq_true', decide_eq_false_iff_not, List.contains_iff_mem] at h
  obtain ⟨⟨⟨⟨h1, h2⟩, h3⟩, h4⟩, h5⟩ := h
  refine ⟨h1, fun y hy => h2 y hy, fun p hp => h3 p hp, fun y hy e => ?_, fun y hy e => ?_⟩
  · rcases h4 y hy with (q | q) | q
    · exact absurd e q
    · exact .inl q
    · exact .inr q
  · rcases h5 y hy with (q | q) | q
    · exfalso
      simp only [Bool.or_eq_false_iff, decide_eq_false_iff_not] at q
      rcases e with e | e
      · exact q.1 e
      · exact q.2 e
    · exact .inl q
    · refine .inr fun z => ?_
      rw [List.contains_iff_mem.mpr z] at q
      cases q
theorem assignEach_ne {e : Expr} {es : List Expr} {env : Env} (h : nst e = true) : assignEach (e :: es) env = (false, assign e env) :: assignEach es env := by
  cases e <;> first | rfl | exact absurd (show false = true from h) Bool.false_ne_true
theorem okTgs_each : ∀ {ts : List Tg} {es : List Expr} {env : Env}, okTgs v ts es = true → (assignEach es env).length = ts.length ∧ (assignEach es env).findIdx? (·.1) = none
  | [], [], _, _ => ⟨rfl, rfl⟩
  | [], _ :: _, _, h => by simp [okTgs] at h
  | _ :: _, [], _, h => by simp [okTgs] at h
  | t :: ts, e :: es, env, h => by
    simp only [okTgs, Bool.and_eq_true] at h
    obtain ⟨a, b⟩ := okTgs_each (env := env) h.2
    rw [assignEach_ne h.1.2]
    refine ⟨by simp [a], ?_⟩
    rw [List.findIdx?_cons]
    simp [b]
mutual
theorem okTg_ok (h : VCok v X Γ c W) : ∀ (t : Tg) (e : Expr), okTg v t e = true → PG X e (gT Γ t)
  | .nm i, e, k => by
    cases e <;> simp only [okTg, Bool.false_eq_true] at k
    simp only [VC.st, Bool.and_eq_true, Bool.or_eq_true, decide_eq_true_eq, kd] at k
    obtain ⟨⟨k1, k2⟩, k3⟩ := k
    refine sg_name h.nd (by rw [h.N]; exact k1) ?_ ?_
    · simp only [VC.loc, Bool.or_eq_true, decide_eq_true_eq, kd] at k2
      rw [← h.sc] at k2
      exact k2.imp of_decide_eq_true of_decide_eq_true
    · rw [← h.sc] at k3
      exact k3.imp (fun z => h.top z _) of_decide_eq_true
  | .tp ts, e, k => by
    cases e <;> simp only [okTg, Bool.false_eq_true] at k
    obtain ⟨a, b⟩ := okTgs_each (env := X.env) k
    exact sg_tup h.calm (okTgs_ok h ts _ k) a b
theorem okTgs_ok (h : VCok v X Γ c W) : ∀ (ts : List Tg) (es : List Expr), okTgs v ts es = true → PGs X es (gTs Γ ts)
  | [], es, k => by
    cases es with
    | nil => exact sgs_nil
    | cons _ _ => simp [okTgs] at k
  | t :: ts, es, k => by
    cases es with
    | nil => simp [okTgs] at k
    | cons e es =>
      simp only [okTgs, Bool.and_eq_true] at k
      exact sgs_cons (okTg_ok h t e k.1.1) (okTgs_ok h ts es k.2) (by rw [assignEach_ne k.1.2]; rfl)
end
def isBO : Expr → Bool
  | .BoolOp _ _ _ => true
  | _ => false
abbrev Both (X : Cx) (Γ : GX) (c : CL) (W : WX) (q : Bool) (e : Expr) (t : E) : Prop := (q = false → SE X Γ c W e t) ∧ (q = true → ST X Γ c W e t ∧ (isBO e = true → SW X Γ c W e t))
theorem plain_bo {e : Expr} (h : plainT e = true) : isBO e = true → False := by
  intro k
  cases e <;> first | exact absurd (show false = true from h) Bool.false_ne_true | exact absurd (show false = true from k) Bool.false_ne_true
theorem Both.mk' {q : Bool} {e : Expr} {t : E} (g : (!q || plainT e) = true) (h : SE X Γ c W e t) : Both X Γ c W q e t :=
  ⟨fun _ => h, fun hq => have p : plainT e = true := by { rw [hq] at g; simpa using g }; ⟨st_of h (plain_at p), fun k => (plain_bo p k).elim⟩⟩
theorem eqC_at {a b : D} (h : eqC a b = true) : a = b := by
  cases a <;> cases b <;> first | rfl | (exact absurd (show false = true from h) Bool.false_ne_true) | (have q := eq_of_beq (show (_ == _) = true from h); rw [q])
end
end MW
namespace MW
open PySem PySem.Spec PyProof.Rows L2
section
variable {Γ : GX} {c : CL}
theorem nst_all {es : List Expr} {env : Env} : ∀ (h : es.all nst = true), (backTo pos (starEach es env)).any (·.1) = false := by
  intro h
  induction es with
  | nil => rfl
  | cons e es ih =>
    rw [List.all_cons, Bool.and_eq_true] at h
    rw [star_ne (nst_at h.1)]
    show (false || (backTo pos (starEach es env)).any (·.1)) = false
    rw [ih h.2]; rfl
theorem bt_in {x : Str} (h : x ∈ btNames := by decide) : x ∈ btNames := h
mutual
theorem okE_ok : ∀ (t : E) (v : VC) (q : Bool) (e : Expr) (X : Cx) (W : WX), VCok v X Γ c W → okE v q t e = true → Both X Γ c W q e t
  | .con d, v, q, e, X, W, h, k => by
    simp only [okE, Bool.and_eq_true] at k
    obtain ⟨g, k⟩ := k
    refine Both.mk' g ?_
    split at k
    · exact se_con k
    · rename_i x p
      simp only [Bool.and_eq_true] at k
      obtain ⟨⟨⟨k1, k2⟩, _⟩, k4⟩ := k
      split at k4
      · rename_i d' ed
        have e2 := eqC_at k4
        subst e2
        obtain ⟨hs, u, hm, ru⟩ := h.gl x d' ed
        exact se_of hs (pe_glob (h.gg k1) hm ru (ordX_at k2).1)
      · cases k4
    · cases k
  | .var i, v, q, e, X, W, h, k => by
    simp only [okE, Bool.and_eq_true] at k
    obtain ⟨g, k⟩ := k
    refine Both.mk' g ?_
    split at k
    · have n := h.nmv k
      exact se_var n.at_ n.vis n.hd n.hcd
    · cases k
  | .bor i, v, q, e, X, W, h, k => by
    simp only [okE, Bool.and_eq_true] at k
    obtain ⟨g, k⟩ := k
    refine Both.mk' g ?_
    split at k
    · have n := h.nmv k
      exact se_bor n.at_ n.vis n.hd n.hcd
    · cases k
  | .tup ts, v, q, e, X, W, h, k => by
    simp only [okE, Bool.and_eq_true] at k
    obtain ⟨g, k⟩ := k
    refine Both.mk' g ?_
    split at k
    · exact se_tup (okEs_ok ts v _ X W h k)
    · cases k
  | .lst ts, v, q, e, X, W, h, k => by
    simp only [okE, Bool.and_eq_true] at k
    obtain ⟨g, k⟩ := k
    refine Both.mk' g ?_
    split at k
    · exact se_lst (okEs_ok ts v _ X W h k)
    · cases k
  | .dnil, v, q, e, X, W, h, k => by
    simp only [okE, Bool.and_eq_true] at k
    obtain ⟨g, k⟩ := k
    refine Both.mk' g ?_
    split at k
    · exact se_dnil h.fit
    · cases k
  | .done a b, v, q, e, X, W, h, k => by
    simp only [okE, Bool.and_eq_true] at k
    obtain ⟨g, k⟩ := k
    refine Both.mk' g ?_
    split at k
    · simp only [Bool.and_eq_true] at k
      exact se_done h.fit ((okE_ok a v false _ X W h k.1).1 rfl) ((okE_ok b v false _ X W h k.2).1 rfl)
    · cases k
  | .bin o a b, v, q, e, X, W, h, k => by
    simp only [okE, Bool.and_eq_true] at k
    obtain ⟨g, k⟩ := k
    refine Both.mk' g ?_
    split at k
    · simp only [Bool.and_eq_true, decide_eq_true_eq] at k
      obtain ⟨⟨rfl, k2⟩, k3⟩ := k
      exact se_bin ((okE_ok a v false _ X W h k2).1 rfl) ((okE_ok b v false _ X W h k3).1 rfl)
    · cases k
  | .neg a, v, q, e, X, W, h, k => by
    simp only [okE, Bool.and_eq_true] at k
    obtain ⟨g, k⟩ := k
    refine Both.mk' g ?_
    split at k
    · exact se_neg ((okE_ok a v false _ X W h k).1 rfl)
    · cases k
  | .cmp o a b, v, q, e, X, W, h, k => by
    simp only [okE, Bool.and_eq_true] at k
    obtain ⟨g, k⟩ := k
    split at k
    · simp only [Bool.and_eq_true, decide_eq_true_eq, Bool.not_eq_true'] at k
      obtain ⟨⟨⟨rfl, k2⟩, k3⟩, k4⟩ := k
      have h2 := (okE_ok a v false _ X W h k2).1 rfl
      have h3 := (okE_ok b v false _ X W h k3).1 rfl
      exact ⟨fun _ => se_cmp h.fit h2 h3 k4, fun _ => ⟨st_cmp h.fit h2 h3 k4, fun z => by cases z⟩⟩
    · cases k
  | .chn o p a b d, v, q, e, X, W, h, k => by
    simp only [okE, Bool.and_eq_true] at k
    obtain ⟨g, k⟩ := k
    split at k
    · simp only [Bool.and_eq_true, decide_eq_true_eq, Bool.not_eq_true'] at k
      obtain ⟨⟨⟨⟨⟨rfl, rfl⟩, k2⟩, k3⟩, k4⟩, k5⟩ := k
      have h2 := (okE_ok a v false _ X W h k2).1 rfl
      have h3 := (okE_ok b v false _ X W h k3).1 rfl
      have h4 := (okE_ok d v false _ X W h k4).1 rfl
      exact ⟨fun _ => se_chn h.fit h2 h3 h4 k5, fun _ => ⟨st_chn h.fit h2 h3 h4 k5, fun z => by cases z⟩⟩
    · cases k
  | .and a b, v, q, e, X, W, h, k => by
    simp only [okE, Bool.and_eq_true] at k
    obtain ⟨g, k⟩ := k
    split at k
    · simp only [Bool.and_eq_true] at k
      have h2 := okE_ok a v q _ X W h k.1
      have h3 := okE_ok b v q _ X W h k.2
      exact ⟨fun z => se_and (h2.1 z) (se_and1 (h3.1 z)), fun z => have w := sw_and (pos := _) (h2.2 z).1 (sw_and1 (h3.2 z).1); ⟨w.pt, fun _ => w⟩⟩
    · simp only [Bool.and_eq_true] at k
      have h2 := okE_ok a v q _ X W h k.1
      have h3 := okE_ok b v q _ X W h k.2
      exact ⟨fun z => se_and (h2.1 z) (h3.1 z), fun z => have w := sw_and (h2.2 z).1 ((h3.2 z).2 rfl); ⟨w.pt, fun _ => w⟩⟩
    · cases k
  | .or a b, v, q, e, X, W, h, k => by
    simp only [okE, Bool.and_eq_true] at k
    obtain ⟨g, k⟩ := k
    split at k
    · simp only [Bool.and_eq_true] at k
      have h2 := okE_ok a v q _ X W h k.1
      have h3 := okE_ok b v q _ X W h k.2
      exact ⟨fun z => se_or (h2.1 z) (se_or1 (h3.1 z)), fun z => have w := sw_or (pos := _) (h2.2 z).1 (sw_or1 (h3.2 z).1); ⟨w.pt, fun _ => w⟩⟩
    · simp only [Bool.and_eq_true] at k
      have h2 := okE_ok a v q _ X W h k.1
      have h3 := okE_ok b v q _ X W h k.2
      exact ⟨fun z => se_or (h2.1 z) (h3.1 z), fun z => have w := sw_or (h2.2 z).1 ((h3.2 z).2 rfl); ⟨w.pt, fun _ => w⟩⟩
    · cases k
  | .not a, v, q, e, X, W, h, k => by
    simp only [okE, Bool.and_eq_true] at k
    obtain ⟨g, k⟩ := k
    split at k
    · have h2 := okE_ok a v q _ X W h k
      exact ⟨fun z => se_not (h2.1 z), fun z => ⟨st_not (h2.2 z).1, fun y => by cases y⟩⟩
    · cases k
  | .ite a b d, v, q, e, X, W, h, k => by
    simp only [okE, Bool.and_eq_true] at k
    obtain ⟨g, k⟩ := k
    refine Both.mk' g ?_
    split at k
    · simp only [Bool.and_eq_true] at k
      exact se_ite ((okE_ok a v true _ X W h k.1.1).2 rfl).1 ((okE_ok b v false _ X W h k.1.2).1 rfl) ((okE_ok d v false _ X W h k.2).1 rfl)
    · cases k
  | .idx a b, v, q, e, X, W, h, k => by
    simp only [okE, Bool.and_eq_true] at k
    obtain ⟨g, k⟩ := k
    refine Both.mk' g ?_
    split at k
    · simp only [Bool.and_eq_true] at k
      exact se_idx h.fit ((okE_ok a v false _ X W h k.1.1).1 rfl) ((okE_ok b v false _ X W h k.1.2).1 rfl) k.2
    · cases k
  | .call f ts, v, q, e, X, W, h, k => by
    simp only [okE, Bool.and_eq_true] at k
    obtain ⟨g, k⟩ := k
    refine Both.mk' g ?_
    split at k
    · rename_i x p as pos
      simp only [Bool.and_eq_true] at k
      obtain ⟨⟨⟨⟨k1, k2⟩, k3⟩, k4⟩, k5⟩ := k
      split at k1
      · rename_i g' np e2
        have e3 := of_decide_eq_true k1
        subst e3
        have hd := h.fn x g' np e2
        have hs := okEs_ok ts v as X W h k4
        cases as with
        | nil =>
          cases ts with
          | nil => exact se_call0 h.tk hd (h.gg k2) (ordX_at k3).1
          | cons _ _ _ => simp [okEs] at k4
        | cons y ys =>
          rw [List.all_cons, Bool.and_eq_true] at k5
          exact se_call h.tk hd (h.gg k2) (ordX_at k3).1 hs (nst_at k5.1) (nst_all k5.2)
      · cases k1
    · cases k
  | .b1 o a, v, q, e, X, W, h, k => by
    simp only [okE, Bool.and_eq_true] at k
    obtain ⟨g, k⟩ := k
    refine Both.mk' g ?_
    split at k
    · rename_i x p y pos
      split at k
      · rename_i ho
        simp only [Bool.and_eq_true, decide_eq_true_eq] at k
        obtain ⟨⟨⟨rfl, k2⟩, k3⟩, k4⟩ := k
        refine se_b1 h.fit h.calm h.il ho (h.gg k2) (h.bt _ ?_) ((okE_ok a v false _ X W h k3).1 rfl) (nst_at k4)
        cases o <;> first | decide | exact absurd ho Bool.false_ne_true
      · rename_i ho
        have eo : o = .setlen := by cases o <;> first | rfl | exact absurd rfl ho
        subst eo
        simp only [Bool.and_eq_true, decide_eq_true_eq] at k
        obtain ⟨⟨⟨rfl, k2⟩, k3⟩, k4⟩ := k
        split at k4
        · simp only [Bool.and_eq_true, decide_eq_true_eq] at k4
          obtain ⟨⟨rfl, k5⟩, k6⟩ := k4
          exact se_setlen h.calm (h.gg k2) (h.bt _ (by decide)) (h.gg k3) (h.bt _ (by decide)) ((okE_ok a v false _ X W h k5).1 rfl) (nst_at k6)
        · cases k4
    · cases k
  | .isi a ty, v, q, e, X, W, h, k => by
    simp only [okE, Bool.and_eq_true] at k
    obtain ⟨g, k⟩ := k
    refine Both.mk' g ?_
    split at k
    · simp only [Bool.and_eq_true, decide_eq_true_eq] at k
      obtain ⟨⟨⟨⟨rfl, k2⟩, k3⟩, k4⟩, k5⟩ := k
      split at k5
      · rename_i n m ev
        simp only [Bool.and_eq_true, decide_eq_true_eq] at k5
        obtain ⟨rfl, k6⟩ := k5
        refine se_isi h.fit h.ii ev (h.gg k2) (h.bt _ (by decide)) (h.gg k6) (h.bt _ ?_) ((okE_ok a v false _ X W h k3).1 rfl) (nst_at k4)
        cases ty <;> simp only [Ty.val, reduceCtorEq, Option.some.injEq, Prod.mk.injEq] at ev <;> obtain ⟨rfl, _⟩ := ev <;> decide
      · cases k5
    · cases k
  | .index a b, v, q, e, X, W, h, k => by
    simp only [okE, Bool.and_eq_true] at k
    obtain ⟨g, k⟩ := k
    refine Both.mk' g ?_
    split at k
    · rename_i x m ap y cp
      simp only [Bool.and_eq_true, decide_eq_true_eq] at k
      obtain ⟨⟨⟨⟨⟨rfl, k1⟩, k2⟩, k3⟩, k4⟩, k5⟩ := k
      refine se_index h.fit ((okE_ok a v false _ X W h k3).1 rfl) ((okE_ok b v false _ X W h k4).1 rfl) ⟨?_, k2⟩ (nst_at k5)
      cases x <;> first | rfl | exact absurd (show false = true from k1) Bool.false_ne_true
    · cases k
  | .comp te (.cons t it cs .nil), v, q, e, X, W, h, k => by
    simp only [okE, Bool.and_eq_true] at k
    obtain ⟨g, k⟩ := k
    refine Both.mk' g ?_
    split at k
    · rename_i x tg iter ifs scope pos
      simp only [Bool.and_eq_true, decide_eq_true_eq] at k
      obtain ⟨⟨⟨⟨⟨⟨k1, k2⟩, k3⟩, k4⟩, k5⟩, k6⟩, k7⟩ := k
      refine se_comp h.calm h.nd (okI_ok it v tg iter X W h k1) (own := ownOf v.N (tgOwn t ++ [])) (blk_at (by rw [h.N, h.sc]; exact k2)) k3 (fun s H C cl fp => okTg_ok (h.blk s H scope cl C fp) t tg k4) (fun s H C cl fp => ?_) (fun s H C cl fp => (okE_ok te _ false x _ _ (h.blk s H scope cl C fp) k6).1 rfl) (set_at k7)
      exact okC_ok cs _ ifs _ (h.blk s H scope cl C fp) k5
    · cases k
  | .comp _ .nil, v, q, e, X, W, h, k => by simp [okE] at k
  | .comp _ (.cons _ _ _ (.cons _ _ _ _)), v, q, e, X, W, h, k => by simp [okE] at k
  | .slc _ _ _, v, q, e, X, W, h, k => by simp [okE] at k
  | .rev _, v, q, e, X, W, h, k => by simp [okE] at k
  | .att _ _, v, q, e, X, W, h, k => by simp [okE] at k
  | .exa _ _, v, q, e, X, W, h, k => by simp [okE] at k
  | .mk _ _ _ _, v, q, e, X, W, h, k => by simp [okE] at k
  | .met _ _ _ _, v, q, e, X, W, h, k => by simp [okE] at k
  | .min2 _ _, v, q, e, X, W, h, k => by simp [okE] at k
  | .max2 _ _, v, q, e, X, W, h, k => by simp [okE] at k
  | .lrng _ _, v, q, e, X, W, h, k => by simp [okE] at k
  | .dget _ _, v, q, e, X, W, h, k => by simp [okE] at k
  | .dgetd _ _ _, v, q, e, X, W, h, k => by simp [okE] at k
  | .dcomp _ _ _, v, q, e, X, W, h, k => by simp [okE] at k
  | .sto _, v, q, e, X, W, h, k => by simp [okE] at k
theorem okEs_ok : ∀ (t : Es) (v : VC) (es : List Expr) (X : Cx) (W : WX), VCok v X Γ c W → okEs v t es = true → SA X Γ c W es t
  | .nil, v, es, X, W, h, k => by
    cases es with
    | nil => exact sa_nil
    | cons _ _ => simp [okEs] at k
  | .cons st a r, v, es, X, W, h, k => by
    cases es with
    | nil => simp [okEs] at k
    | cons x xs =>
      by_cases hx : nst x = true
      · have k' : (!st && nst x && okE v false a x && okEs v r xs) = true := by
          cases x <;> first | exact k | exact absurd (show false = true from hx) Bool.false_ne_true
        simp only [Bool.and_eq_true, Bool.not_eq_true'] at k'
        obtain ⟨⟨⟨rfl, _⟩, k2⟩, k3⟩ := k'
        exact sa_cons ((okE_ok a v false x X W h k2).1 rfl) (okEs_ok r v xs X W h k3) (nst_at hx)
      · cases x <;> first | exact absurd rfl hx | skip
        simp only [okEs, Bool.and_eq_true] at k
        obtain ⟨⟨rfl, k2⟩, k3⟩ := k
        exact sa_star ((okE_ok a v false _ X W h k2).1 rfl) (okEs_ok r v xs X W h k3)
theorem okC_ok : ∀ (t : Es) (v : VC) (es : List Expr) (X : Cx), VCok v X Γ c W0 → okC v t es = true → PTs X es (tC1 Γ c t)
  | .nil, v, es, X, h, k => by
    cases es with
    | nil => exact sts_nil
    | cons _ _ => simp [okC] at k
  | .cons st a r, v, es, X, h, k => by
    cases es with
    | nil => simp [okC] at k
    | cons x xs =>
      cases xs with
      | cons _ _ => simp [okC] at k
      | nil =>
        simp only [okC, Bool.and_eq_true] at k
        cases r with
        | cons _ _ _ => exact absurd k.2 Bool.false_ne_true
        | nil => exact sts_one ((okE_ok a v true x X W0 h k.1).2 rfl).1
theorem okI_ok : ∀ (t : It) (v : VC) (tg e : Expr) (X : Cx) (W : WX), VCok v X Γ c W → okI v t tg e = true → PI X tg e (tI Γ c W t)
  | .rng a b, v, tg, e, X, W, h, k => by
    simp only [okI] at k
    split at k
    · simp only [Bool.and_eq_true, decide_eq_true_eq] at k
      obtain ⟨⟨⟨⟨rfl, k2⟩, k3⟩, k4⟩, k5⟩ := k
      split at k3
      · rename_i i
        have ei := eq_of_beq k3
        subst ei
        exact si_rng1 (h.gg k2) (h.bt _ (by decide)) ((okE_ok b v false _ X W h k4).1 rfl) (nst_at k5)
      · cases k3
    · simp only [Bool.and_eq_true, decide_eq_true_eq] at k
      obtain ⟨⟨⟨⟨⟨rfl, k2⟩, k3⟩, k4⟩, k5⟩, k6⟩ := k
      exact si_rng2 (h.gg k2) (h.bt _ (by decide)) ((okE_ok a v false _ X W h k3).1 rfl) ((okE_ok b v false _ X W h k4).1 rfl) (nst_at k5) (nst_at k6)
    · cases k
  | .seq a, v, tg, e, X, W, h, k => si_seq ((okE_ok a v false e X W h k).1 rfl)
  | .enum a, v, tg, e, X, W, h, k => by
    simp only [okI] at k
    split at k
    · simp only [Bool.and_eq_true, decide_eq_true_eq] at k
      obtain ⟨⟨⟨rfl, k2⟩, k3⟩, k4⟩ := k
      exact si_enum (h.gg k2) (h.bt _ (by decide)) ((okE_ok a v false _ X W h k3).1 rfl) (nst_at k4)
    · cases k
  | .zip a b, v, tg, e, X, W, h, k => by
    simp only [okI] at k
    split at k
    · simp only [Bool.and_eq_true, decide_eq_true_eq] at k
      obtain ⟨⟨⟨⟨⟨rfl, k2⟩, k3⟩, k4⟩, k5⟩, k6⟩ := k
      exact si_zip (h.gg k2) (h.bt _ (by decide)) ((okE_ok a v false _ X W h k3).1 rfl) ((okE_ok b v false _ X W h k4).1 rfl) (nst_at k5) (nst_at k6)
    · cases k
end
end
end MW
namespace MW
open PySem PySem.Spec PyProof.Rows L2
def isFrz : MW.S → Bool
  | .frz _ => true
  | _ => false
def noComp : Expr → Bool
  | .ListComp _ _ _ _ => false
  | .SetComp _ _ _ _ => false
  | .DictComp _ _ _ _ _ => false
  | _ => true
def isTupX : Expr → Bool
  | .Tuple _ _ _ => true
  | .List _ _ => true
  | _ => false
def swB (sc : Scope) (x : Str) (q : Pos) (s : Scope) (p : Pos) : Bool :=
  ((if sc.kind.isAnnotationScope then ScopeKind.function else sc.kind) == .function && sc.names.lookup x == some .local && q.line == p.line && !(s.names.any fun (n, k) => n == x && (k == .local || k == .cell)))
def asgK (sc : Scope) (tg value : Expr) : Nat :=
  match tg with
  | .Name x q => match value with
    | .ListComp _ _ s p => if swB sc x q s p then 1 else 0
    | e => if noComp e then 0 else 2
  | .Tuple _ _ _ => if isTupX value then 2 else 0
  | _ => 2
def cmp1 : E → Bool
  | .comp _ (.cons _ _ _ .nil) => true
  | _ => false
mutual
def okS (v : VC) (t : MW.S) (st : Stmt) : Bool := match t with
  | .asg g e => match st with
    | .Assign [tg] value _ => okTg v g tg && okE v false e value && (asgK v.sc tg value == 0 || (asgK v.sc tg value == 1 && cmp1 e && (match g with | .nm _ => true | _ => false)))
    | _ => false
  | .app i e => match st with
    | .Expr (.Call (.Attribute (.Name x _) m ap) [y] [] cp) _ => decide (m = ("append" : Str)) && v.nm i x && okE v false e y && nst y && (ap.endLine == cp.line)
    | _ => false
  | .seti i k e => match st with
    | .Assign [.Subscript (.Name x _) ky _] val _ => v.nm i x && okE v false k ky && okE v false e val
    | _ => false
  | .sdef i k e => match st with
    | .Expr (.Call (.Attribute (.Name x _) m ap) [y, z] [] cp) _ => decide (m = ("setdefault" : Str)) && v.nm i x && okE v false k y && okE v false e z && nst y && nst z && (ap.endLine == cp.line)
    | _ => false
  | .ite c a b => match st with
    | .If x p q _ => okE v true c x && okSs v a p && okSs v b q
    | _ => false
  | .for_ g it b => match st with
    | .For tg iter body [] _ => okTg v g tg && okI v it tg iter && okSs v b body && notSet iter
    | _ => false
  | .whl c b => match st with
    | .While x body [] _ => okE v true c x && okSs v b body
    | _ => false
  | .ret e => match st with
    | .Return (some x) _ => okE v false e x
    | _ => false
  | .retb i => match st with
    | .Return (some (.Name x _)) _ => v.nm i x
    | _ => false
  | .expr e => match st with
    | .Expr x _ => okE v false e x && noComp x
    | _ => false
  | .pass => match st with
    | .Pass _ => true
    | _ => false
  | .brk => match st with
    | .Break _ => true
    | _ => false
  | .cont => match st with
    | .Continue _ => true
    | _ => false
  | _ => false
termination_by structural t
def okSs (v : VC) (t : Ss) (sts : List Stmt) : Bool := match t with
  | .nil => match sts with
    | [] => true
    | _ => false
  | .cons s r => if isFrz s then okSs v r sts else match sts with
    | st :: sts' => okS v s st && okSs v r sts'
    | [] => false
termination_by structural t
end
section
variable {Γ : GX} {c : CL}
theorem sw_plain {e : Expr} {o : Option Expr} {n : Nat} {env : Env} (h : noComp e = true) : swapsWith e o n env = pure false := by
  cases e <;> first | rfl | exact absurd (show false = true from h) Bool.false_ne_true
theorem sw_sub {e o i : Expr} {p : Pos} {n : Nat} {env : Env} : swapsWith e (some (.Subscript o i p)) n env = pure false := by
  cases e <;> rfl
theorem sw_lc {e : Expr} {g : List Comprehension} {s : Scope} {p q : Pos} {x : Str} {n : Nat} {env : Env} : swapsWith (.ListComp e g s p) (some (.Name x q)) n env = pure (swB env.scope x q s p) := rfl
theorem asg_ok {v : VC} {X : Cx} {W : WX} (h : VCok v X Γ c W) {tg value : Expr} {n : Nat} (k : asgK v.sc tg value = 0) : swapsWithSole [tg] value n X.env = pure false ∧ swappedStores [tg] value X.env = pure none ∧ (assignEach [tg] X.env).map (·.2) = [assign tg X.env] := by
  cases tg <;> first | exact absurd (show (2 : Nat) = 0 from k) (by decide) | skip
  · rename_i x q
    refine ⟨?_, by cases value <;> rfl, rfl⟩
    show swapsWith value (some (.Name x q)) n X.env = pure false
    by_cases hc : noComp value = true
    · exact sw_plain hc
    · cases value <;> first | exact absurd rfl hc | skip
      · rename_i e g s p
        rw [sw_lc, h.sc]
        simp only [asgK] at k
        split at k
        · cases k
        · rename_i hb
          rw [Bool.eq_false_iff.mpr hb]
      · simp [asgK, noComp] at k
      · simp [asgK, noComp] at k
  · rename_i es kk p
    simp only [asgK] at k
    split at k
    · cases k
    · rename_i ht
      refine ⟨by cases value <;> rfl, ?_, rfl⟩
      cases value <;> first | rfl | exact absurd rfl ht
structure SCok (v : VC) (X : Cx) (Γ : GX) (c : CL) (W : WX) : Prop extends VCok v X Γ c W where
  po : PassesOwn (model X.prog X.w) X.A X.env X.xe
theorem ss_setLc {v : VC} {X : Cx} {W : WX} (h : VCok v X Γ c W) {i : Nat} {y : Str} {py : Pos} {elt tg iter : Expr} {ifs : List Expr} {scope : Scope} {pos spos : Pos} {te : E} {t : Tg} {it : It} {cs : Es}
    (hy : v.st i y = true) (hsw : swB v.sc y py scope pos = true) (k : okE v false (.comp te (.cons t it cs .nil)) (.ListComp elt [⟨tg, iter, ifs, 0⟩] scope pos) = true) :
    SS X Γ c W (.Assign [.Name y py] (.ListComp elt [⟨tg, iter, ifs, 0⟩] scope pos) spos) (.asg (.nm i) (.comp te (.cons t it cs .nil))) := by
  simp only [okE, Bool.and_eq_true, decide_eq_true_eq] at k
  obtain ⟨_, ⟨⟨⟨⟨⟨k1, k2⟩, k3⟩, k4⟩, k5⟩, k6⟩, k7⟩ := k
  have hl : X.env.scope.names.lookup y = some .local := by
    rw [h.sc]
    simp only [swB, Bool.and_eq_true] at hsw
    exact eq_of_beq hsw.1.1.2
  have hN : X.N[i]? = some y := by
    simp only [VC.st, Bool.and_eq_true, decide_eq_true_eq] at hy
    rw [h.N]; exact hy.1.1
  refine PS.imp (ps_setLc h.calm h.nd hN hl (by rw [sw_lc, h.sc, hsw]) (okI_ok it v tg iter X W h k1) (own := ownOf v.N (tgOwn t ++ [])) (blk_at (by rw [h.N, h.sc]; exact k2)) (fun s H C cl fp => okTg_ok (h.blk s H scope cl C fp) t tg k4) (fun s H C cl fp => okC_ok cs _ ifs _ (h.blk s H scope cl C fp) k5) (fun s H C cl fp => SE.frz ((okE_ok te _ false elt _ _ (h.blk s H scope cl C fp) k6).1 rfl)) (set_at k7)) fun D σ H ⟨Gb, Hb, αb, G, α, ρ, μ, st, w⟩ => ?_
  refine comp_read k3 (tE_mono0 (liftE (c := c) st w) fun vv H1 ⟨x, G1, α1, μ1, g, st1, nr, w1⟩ => ?_)
  obtain ⟨ρ', ea, w2⟩ := w1.opt
  show D.nx (σ.set i (some vv)) H1
  cases x with
  | dat d =>
    simp only [asgT] at ea
    split at ea
    · cases ea
      exact w2 _ G1 H1 α1 (st1.put (i := i) (x := .dat d) ⟨vv, rfl, nr.1⟩ fun d e => by cases e)
    · cases ea
  | frs d =>
    simp only [asgT] at ea
    split at ea
    · cases ea
      obtain ⟨⟨p, rfl, gp, np, ow, h0, hd⟩, ap⟩ := nr
      exact w2 _ G1 H1 α1 (st1.put (i := i) (x := .cel d) ⟨p, rfl, gp, np, ow, hd⟩ fun d' e p' ep => by
        cases e; cases ep
        exact ⟨ap d rfl p rfl, h0⟩)
    · cases ea
  | bor d => simp [asgT] at ea
mutual
theorem okS_ok : ∀ (t : MW.S) (v : VC) (st : Stmt) (X : Cx) (W : WX), SCok v X Γ c W → okS v t st = true → SS X Γ c W st t
  | .asg g e, v, st, X, W, h, k => by
    simp only [okS] at k
    split at k
    · rename_i tg value pos
      simp only [Bool.and_eq_true, Bool.or_eq_true] at k
      obtain ⟨⟨k1, k2⟩, k3⟩ := k
      rcases k3 with k3 | ⟨⟨k3, k4⟩, k5⟩
      · obtain ⟨a1, a2, a3⟩ := asg_ok (n := pos.line) h.toVCok (eq_of_beq k3)
        exact ss_asg ((okE_ok e v false value X W h.toVCok k2).1 rfl) (okTg_ok h.toVCok g tg k1) a1 a2 a3
      · cases g with
        | tp ts => exact absurd k5 Bool.false_ne_true
        | nm i =>
          cases tg <;> simp only [okTg, Bool.false_eq_true] at k1
          rename_i y py
          have k3' := eq_of_beq k3
          cases value <;> first | (simp [asgK, noComp] at k3'; done) | skip
          rename_i elt gens scope pos2
          have hs : swB v.sc y py scope pos2 = true := by
            simp only [asgK] at k3'
            split at k3'
            · assumption
            · cases k3'
          cases e <;> first | exact absurd k4 Bool.false_ne_true | skip
          rename_i te gs
          cases gs with
          | nil => exact absurd k4 Bool.false_ne_true
          | cons t it cs r =>
            cases r with
            | cons _ _ _ _ => exact absurd k4 Bool.false_ne_true
            | nil =>
              have k2' := k2
              simp only [okE, Bool.and_eq_true] at k2
              obtain ⟨_, k6⟩ := k2
              split at k6
              · rename_i ee
                cases ee
                exact ss_setLc h.toVCok k1 hs k2'
              · cases k6
    · cases k
  | .app i e, v, st, X, W, h, k => by
    simp only [okS] at k
    split at k
    · simp only [Bool.and_eq_true, decide_eq_true_eq] at k
      obtain ⟨⟨⟨⟨rfl, k2⟩, k3⟩, k4⟩, k5⟩ := k
      exact ss_app (h.nmv k2) ((okE_ok e v false _ X W h.toVCok k3).1 rfl) (nst_at k4) ⟨rfl, k5⟩ rfl
    · cases k
  | .seti i kk e, v, st, X, W, h, k => by
    simp only [okS] at k
    split at k
    · simp only [Bool.and_eq_true] at k
      obtain ⟨⟨k1, k2⟩, k3⟩ := k
      exact ss_seti h.fit (h.nmv k1) ((okE_ok kk v false _ X W h.toVCok k2).1 rfl) ((okE_ok e v false _ X W h.toVCok k3).1 rfl) sw_sub
    · cases k
  | .sdef i kk e, v, st, X, W, h, k => by
    simp only [okS] at k
    split at k
    · simp only [Bool.and_eq_true, decide_eq_true_eq] at k
      obtain ⟨⟨⟨⟨⟨⟨rfl, k2⟩, k3⟩, k4⟩, k5⟩, k6⟩, k7⟩ := k
      exact ss_sdef h.fit (h.nmv k2) ((okE_ok kk v false _ X W h.toVCok k3).1 rfl) ((okE_ok e v false _ X W h.toVCok k4).1 rfl) (nst_at k5) (nst_at k6) ⟨rfl, k7⟩ rfl
    · cases k
  | .ite t a b, v, st, X, W, h, k => by
    simp only [okS] at k
    split at k
    · simp only [Bool.and_eq_true] at k
      exact ss_ite ((okE_ok t v true _ X W h.toVCok k.1.1).2 rfl).1 (okSs_ok a v _ X W h k.1.2) (okSs_ok b v _ X W h k.2)
    · cases k
  | .for_ g it b, v, st, X, W, h, k => by
    simp only [okS] at k
    split at k
    · simp only [Bool.and_eq_true] at k
      exact ss_for h.po h.calm (okI_ok it v _ _ X W h.toVCok k.1.1.2) (okTg_ok h.toVCok g _ k.1.1.1) (okSs_ok b v _ X W h k.1.2) (set_at k.2)
    · cases k
  | .whl t b, v, st, X, W, h, k => by
    simp only [okS] at k
    split at k
    · simp only [Bool.and_eq_true] at k
      exact ss_whl h.po ((okE_ok t v true _ X W h.toVCok k.1).2 rfl).1 (okSs_ok b v _ X W h k.2)
    · cases k
  | .ret e, v, st, X, W, h, k => by
    simp only [okS] at k
    split at k
    · exact ss_ret ((okE_ok e v false _ X W h.toVCok k).1 rfl)
    · cases k
  | .retb i, v, st, X, W, h, k => by
    simp only [okS] at k
    split at k
    · have n := h.nmv k
      exact ss_retb n.at_ n.vis n.hd n.hcd
    · cases k
  | .expr e, v, st, X, W, h, k => by
    simp only [okS] at k
    split at k
    · simp only [Bool.and_eq_true] at k
      exact ss_expr ((okE_ok e v false _ X W h.toVCok k.1).1 rfl) (sw_plain k.2)
    · cases k
  | .pass, v, st, X, W, h, k => by
    simp only [okS] at k
    split at k
    · exact ss_pass
    · cases k
  | .brk, v, st, X, W, h, k => by
    simp only [okS] at k
    split at k
    · exact ss_brk
    · cases k
  | .cont, v, st, X, W, h, k => by
    simp only [okS] at k
    split at k
    · exact ss_cont
    · cases k
  | .setr _ _ _, v, st, X, W, h, k => by simp [okS] at k
  | .seta _ _ _, v, st, X, W, h, k => by simp [okS] at k
  | .aug _ _ _, v, st, X, W, h, k => by simp [okS] at k
  | .augr _ _ _ _, v, st, X, W, h, k => by simp [okS] at k
  | .appr _ _, v, st, X, W, h, k => by simp [okS] at k
  | .ext _ _, v, st, X, W, h, k => by simp [okS] at k
  | .pop _ _, v, st, X, W, h, k => by simp [okS] at k
  | .popr _ _, v, st, X, W, h, k => by simp [okS] at k
  | .retn, v, st, X, W, h, k => by simp [okS] at k
  | .raise _ _, v, st, X, W, h, k => by simp [okS] at k
  | .try_ _ _, v, st, X, W, h, k => by simp [okS] at k
  | .frz _, v, st, X, W, h, k => by simp [okS] at k
theorem okSs_ok : ∀ (t : Ss) (v : VC) (sts : List Stmt) (X : Cx) (W : WX), SCok v X Γ c W → okSs v t sts = true → SSs X Γ c W sts t
  | .nil, v, sts, X, W, h, k => by
    cases sts with
    | nil => exact sss_nil
    | cons _ _ => simp [okSs] at k
  | .cons s r, v, sts, X, W, h, k => by
    simp only [okSs] at k
    split at k
    · rename_i hf
      cases s <;> first | exact absurd hf Bool.false_ne_true | skip
      exact sss_frz (okSs_ok r v sts X W h k)
    · split at k
      · simp only [Bool.and_eq_true] at k
        exact sss_cons (okS_ok s v _ X W h k.1) (okSs_ok r v _ X W h k.2)
      · cases k
end
end
end MW
namespace MW
open PySem PySem.Spec PyProof.Rows L2
structure DT where
  num : Nat
  name : Str
  N : List Str
  np : Nat
  st : Stmt
def fnOfL : List DT → Str → Option (Nat × Nat)
  | [], _ => none
  | d :: r, x => if d.name = x then some (d.num, d.np) else fnOfL r x
theorem fnOfL_mem : ∀ {l : List DT} {x : Str} {f np : Nat}, fnOfL l x = some (f, np) → ∃ d ∈ l, d.name = x ∧ d.num = f ∧ d.np = np
  | [], _, _, _, h => by simp [fnOfL] at h
  | d :: r, x, f, np, h => by
    simp only [fnOfL] at h
    split at h
    · rename_i e
      cases h
      exact ⟨d, by simp, e, rfl, rfl⟩
    · obtain ⟨d', m, q⟩ := fnOfL_mem h
      exact ⟨d', List.mem_cons_of_mem _ m, q⟩
def glOfL : List (Str × D) → Str → Option D
  | [], _ => none
  | p :: r, x => if p.1 = x then some p.2 else glOfL r x
theorem glOfL_mem : ∀ {l : List (Str × D)} {x : Str} {d : D}, glOfL l x = some d → (x, d) ∈ l
  | [], _, _, h => by simp [glOfL] at h
  | p :: r, x, d, h => by
    simp only [glOfL] at h
    split at h
    · rename_i e
      cases h
      rw [← e]; simp
    · exact List.mem_cons_of_mem _ (glOfL_mem h)
def vcOf (defs : List DT) (gls : List (Str × D)) (d : DT) : VC := ⟨defScope d.st, d.N, true, glOfL gls, fnOfL defs⟩
def defB (defs : List DT) (gls : List (Str × D)) (Pg : MW.Prog) (d : DT) : Bool :=
  match Pg.fn d.num with
  | some fd => decide (fd.np = d.np) && decide (fd.nl = d.N.length) && decide (d.np ≤ d.N.length) && okSs (vcOf defs gls d) fd.body (defBody d.st) &&
    decide ((defScope d.st).kind = .function) && !(defScope d.st).isCoroutine && !(defScope d.st).isGenerator && decide d.N.Nodup &&
    (d.N.take d.np).all (fun x => decide (kd (defScope d.st) x = some .local) || decide (kd (defScope d.st) x = some .cell)) && (defScope d.st).names.all (fun y => !decide (y.2 = .free))
  | none => false
structure DefIn (K : PySem.W.Frag) (mg : Str → Option Value) (d : DT) (fa : Addr) (fd : FuncData) : Prop where
  g : mg d.name = some (.ref fa)
  f : Fun K d.name d.name d.st fa fd
  b : Binds K fd (d.N.take d.np) []
section
variable {P : Program} {w : World} {K : PySem.W.Frag} {mg : Str → Option Value} {base : Heap} {Γ : GX} {Pg : MW.Prog} {defs : List DT} {gls : List (Str × D)}
theorem start_rep {H : Hp} {G : Hp} {α : List Addr} : ∀ {ds : List D} {vs : List V}, RepL Γ G α ds vs → ∀ (i : Nat) (s : Sl) (o : Option V), (ds.map Sl.dat)[i]? = some s → (vs.map some)[i]? = some o → SlR Γ G H α s o
  | [], _, _, i, s, o, e, _ => by simp at e
  | d :: ds, vs, r, i, s, o, e1, e2 => by
    simp only [RepL] at r
    obtain ⟨v, vr, rfl, r1, r2⟩ := r
    cases i with
    | zero => simp at e1 e2; subst e1; subst e2; exact ⟨v, rfl, r1⟩
    | succ i => exact start_rep r2 i s o (by simpa using e1) (by simpa using e2)
theorem start_env {H G : Hp} {α : List Addr} {ds : List D} {vs : List V} {N : List Str} {fd : FD} (r : RepL Γ G α ds vs) (hl : fd.nl = N.length) (hn : ds.length = fd.np) : EnvR Γ G H α (startS fd ds) (L2.start N vs) := by
  have ln := r.length
  refine ⟨?_, fun i s o e1 e2 => ?_, fun i j d e p _ e1 _ _ _ => ?_⟩
  · unfold startS L2.start
    rw [List.length_append, List.length_append, List.length_map, List.length_map, List.length_replicate, List.length_replicate]
    omega
  · unfold startS at e1
    unfold L2.start at e2
    by_cases h : i < ds.length
    · rw [List.getElem?_append_left (by simpa using h)] at e1
      rw [List.getElem?_append_left (by rw [List.length_map, ← ln]; exact h)] at e2
      exact start_rep r i s o e1 e2
    · rw [List.getElem?_append_right (by simpa using h), List.getElem?_replicate] at e1
      split at e1
      · cases e1; trivial
      · cases e1
  · unfold startS at e1
    by_cases h : i < ds.length
    · rw [List.getElem?_append_left (by simpa using h), List.getElem?_map] at e1
      cases q : ds[i]? with
      | none => rw [q] at e1; cases e1
      | some z => rw [q] at e1; cases e1
    · rw [List.getElem?_append_right (by simpa using h), List.getElem?_replicate] at e1
      split at e1 <;> cases e1
theorem callN_len (n f : Nat) (fd : FD) (e : Pg.fn f = some fd) (ds : List D) (m : Mu) (h : ds.length ≠ fd.np) : callN Pg n f ds m = .bad := by
  cases n with
  | zero => rfl
  | succ n =>
    simp only [callN, e]
    unfold runF
    rw [if_neg h]
structure TxtOk (P : Program) (w : World) (K : PySem.W.Frag) (mg : Str → Option Value) (Γ : GX) (Pg : MW.Prog) (defs : List DT) (gls : List (Str × D)) : Prop where
  eP : Γ.P = P
  ew : Γ.w = w
  eK : Γ.K = K
  flds : Pg.flds = Γ.flds
  eqn : ∀ cc, Pg.eqf.getD cc none = none
  lenn : ∀ cc, Pg.lenf.getD cc none = none
  ii : Γ.flds = []
  gl : ∀ p ∈ gls, scl p.2 = true ∧ ∃ u, mg p.1 = some u ∧ RelV (sclV p.2) u
  bt : ∀ x ∈ btNames, mg x = none
  df : ∀ d ∈ defs, defB defs gls Pg d = true ∧ ∃ fa fd, DefIn K mg d fa fd
theorem fns_ok (T : TxtOk P w K mg Γ Pg defs gls) : ∀ (n : Nat) (d : DT), d ∈ defs → ∀ (fa : Addr) (fd : FuncData), DefIn K mg d fa fd → FnOk P w K mg base (L2.CX P w) n fa fd (d.N.take d.np) (spF Γ (callN Pg n d.num) d.np)
  | 0, d, hd, fa, fd, I => ⟨fun vs H Q E h => by obtain ⟨_, G, α, μ, ds, _, _, w⟩ := h; exact w.elim, fun A outer s H args us vs Q E hr e0 hb hv h => by obtain ⟨_, G, α, μ, ds, _, _, w⟩ := h; exact w.elim⟩
  | n + 1, d, hd, fa, fd, I => by
    obtain ⟨hb, _⟩ := T.df d hd
    unfold defB at hb
    split at hb
    · rename_i fb efn
      simp only [Bool.and_eq_true, decide_eq_true_eq, Bool.not_eq_true', List.all_eq_true, Bool.or_eq_true] at hb
      obtain ⟨⟨⟨⟨⟨⟨⟨⟨⟨b1, b2⟩, b3⟩, b4⟩, b5⟩, b6⟩, b7⟩, b8⟩, b9⟩, b10⟩ := hb
      have ln : (d.N.take d.np).length = d.np := by rw [List.length_take]; omega
      have S : FnScope d.N (d.N.take d.np) (defScope d.st) := by
        refine ⟨b5, b6, b7, b8, by rw [ln], fun x hx => ?_, fun y hy => ?_⟩
        · exact b9 x hx
        · have q := b10 y hy
          exact of_decide_eq_false q
      refine I.f.okX S (fun vs H Q E h => by rw [ln]; exact h.1) fun cdv A outer s H vs Q E hr h => ?_
      have V : SCok (vcOf defs gls d) (cxOf (L2.CX P w) P w K mg base d.N d.name (defScope d.st) fa cdv A outer s H E) Γ (Pg.cl n) (fun cc dd _ H' => E cc dd H') :=
        { sc := rfl, N := rfl, nd := b8, top := fun _ _ => rfl, calm := rfl
          gl := fun x dd e => T.gl (x, dd) (glOfL_mem e)
          fn := fun x f np e => by
            obtain ⟨d', m', e1, e2, e3⟩ := fnOfL_mem e
            subst e1; subst e2; subst e3
            obtain ⟨hb', fa', fd', I'⟩ := T.df d' m'
            refine ⟨⟨n, fa', fd', _, I'.g, I'.f.kp, hr, I'.b, fns_ok T n d' m' fa' fd' I'⟩, fun ds m hl => ?_⟩
            unfold defB at hb'
            split at hb'
            · rename_i fb' e4
              simp only [Bool.and_eq_true, decide_eq_true_eq] at hb'
              exact callN_len n d'.num fb' e4 ds m (by rw [hb'.1.1.1.1.1.1.1.1.1]; exact hl)
            · cases hb'
          bt := T.bt, P := T.eP, w := T.ew, K := T.eK, hu := by have := hr.un; show (A.deeper _).units + 100 < cLine; omega
          flds := T.flds, eqn := T.eqn, lenn := T.lenn
          ii := fun hlt => by rw [T.ii] at hlt; exact absurd hlt (Nat.not_lt_zero _)
          tk := takes_of rfl rfl rfl rfl, po := passes_of rfl }
      refine ⟨tSs Γ (Pg.cl n) (fun cc dd _ H' => E cc dd H') fb.body, okSs_ok fb.body _ _ _ _ V b4, ?_⟩
      obtain ⟨hl, G, α, μ, ds, sm, rl, w⟩ := h
      have e1 : callN Pg (n + 1) d.num ds μ = runF (Pg.cl n) fb ds μ := by simp only [callN, efn]
      rw [e1] at w
      unfold runF at w
      by_cases hd' : ds.length = fb.np
      · rw [if_pos hd'] at w
        have en := start_env (H := H) (N := d.N) rl b2 hd'
        have st : Sta Γ G H α G H α (startS fb ds) (L2.start d.N vs) μ := ⟨Gr.refl _ _ _, Keep.refl _, sm, en, fun i dd p ei _ => by
          obtain ⟨o, e2, q⟩ := en.here ei
          unfold startS at ei
          by_cases hi : i < ds.length
          · rw [List.getElem?_append_left (by simpa using hi), List.getElem?_map] at ei
            cases q : ds[i]? with
            | none => rw [q] at ei; cases ei
            | some z => rw [q] at ei; cases ei
          · rw [List.getElem?_append_right (by simpa using hi), List.getElem?_replicate] at ei
            split at ei <;> cases ei⟩
        refine ⟨G, H, α, G, α, _, μ, st, ?_⟩
        cases e2 : exSs (Pg.cl n) (startS fb ds) fb.body μ with
        | ok fl m =>
          rw [e2] at w
          cases fl with
          | nx ρ' => exact fun σ' G' H' α' st' => w .non G' H' α' st'.gr st'.sm (by simp only [VlR, Rep])
          | ret v => exact fun b G' H' α' g s' r _ => w b G' H' α' g s' r
          | brk ρ' => exact w.elim
          | cont ρ' => exact w.elim
          | exc e dd ρ' => exact fun dx σ' G' H' α' st' er hn => w dx G' H' α' st'.gr st'.sm er hn
        | exc _ _ _ => rw [e2] at w; exact w.elim
        | bad => rw [e2] at w; exact w.elim
      · rw [if_neg hd'] at w; exact w.elim
    · cases hb
end
end MW
namespace MW
def fd_goings : FD := ⟨3, 11, (.cons (.asg (.tp [(.nm 5), (.nm 6), (.nm 7)]) (.var 0))
 <| .cons (.asg (.nm 3) (.lst .nil))
 <| .cons (.ite (.and (.cmp .eq (.bor 2) (.con (.int 0))) (.cmp (.ord .gt) (.bor 5) (.con (.int 0)))) (.cons (.retb 3)
  <| .nil) .nil)
 <| .cons (.for_ (.nm 4) (.rng (.con (.int 0)) (.bin .sub (.con (.int 2)) (.bor 7))) (.cons (.asg (.nm 8) (.bin .sub (.bin .sub (.bin .sub (.bor 1) (.bor 5)) (.bor 6)) (.bin .mul (.con (.int 2)) (.bor 4))))
  <| .cons (.for_ (.nm 9) (.rng (.con (.int 0)) (.ite (.cmp (.ord .ge) (.bor 8) (.con (.int 0))) (.bin .add (.bin .fdiv (.bor 8) (.con (.int 3))) (.con (.int 1))) (.con (.int 0)))) (.cons (.asg (.nm 10) (.bin .sub (.bor 8) (.bin .mul (.con (.int 3)) (.bor 9))))
   <| .cons (.ite (.or (.cmp .eq (.bor 10) (.con (.int 0))) (.cmp (.ord .ge) (.bor 2) (.con (.int 2)))) (.cons (.app 3 (.tup (.cons false (.tup (.cons false (.var 10) (.cons false (.var 5) (.cons false (.bin .add (.bor 7) (.bor 4)) .nil)))) (.cons false (.var 9) (.cons false (.var 10) .nil)))))
    <| .nil) .nil)
   <| .nil))
  <| .nil))
 <| .cons (.retb 3)
 <| .nil)⟩
def fd_stands_behind : FD := ⟨2, 6, (.cons (.asg (.nm 2) .dnil)
 <| .cons (.for_ (.nm 3) (.seq (.var 0)) (.cons (.for_ (.tp [(.nm 4), (.nm 5), (.nm 5)]) (.seq (.call 0 (.cons false (.var 3) (.cons false (.var 1) (.cons false (.con (.int 2)) .nil))))) (.cons (.ite (.cmp (.ord .le) (.bin .add (.idx (.bor 4) (.con (.int 0))) (.idx (.bor 4) (.con (.int 1)))) (.con (.int 4))) (.cons (.seti 2 (.var 4) (.con (.bl true)))
    <| .nil) .nil)
   <| .nil))
  <| .nil))
 <| .cons (.ret (.b1 .tuple (.b1 .sorted (.b1 .list (.bor 2)))))
 <| .nil)⟩
def fd_marks_of : FD := ⟨1, 1, (.cons (.ret (.tup (.cons false (.cmp .isin (.tup (.cons false (.con (.int 0)) (.cons false (.con (.int 0)) (.cons false (.con (.int 0)) .nil)))) (.bor 0)) (.cons false (.cmp .isin (.tup (.cons false (.con (.int 0)) (.cons false (.con (.int 0)) (.cons false (.con (.int 1)) .nil)))) (.bor 0)) .nil))))
 <| .nil)⟩
def fd_sets_reached : FD := ⟨0, 7, (.cons (.asg (.nm 0) (.done (.tup (.cons false (.tup (.cons false (.con (.int 0)) (.cons false (.con (.int 0)) (.cons false (.con (.int 0)) .nil)))) .nil)) (.con (.int 0))))
 <| .cons (.asg (.nm 1) (.lst (.cons false (.tup (.cons false (.tup (.cons false (.con (.int 0)) (.cons false (.con (.int 0)) (.cons false (.con (.int 0)) .nil)))) .nil)) .nil)))
 <| .cons (.asg (.nm 2) (.lst .nil))
 <| .cons (.whl (.cmp (.ord .lt) (.b1 .len (.bor 2)) (.b1 .len (.bor 1))) (.cons (.asg (.nm 3) (.lst .nil))
  <| .cons (.for_ (.nm 4) (.rng (.con (.int 0)) (.bin .add (.con (.int 4)) (.con (.int 1)))) (.cons (.asg (.nm 5) (.call 1 (.cons false (.idx (.bor 1) (.b1 .len (.bor 2))) (.cons false (.var 4) .nil))))
   <| .cons (.ite (.cmp .notin (.bor 5) (.bor 0)) (.cons (.seti 0 (.var 5) (.b1 .len (.bor 1)))
    <| .cons (.app 1 (.var 5))
    <| .nil) .nil)
   <| .cons (.app 3 (.idx (.bor 0) (.bor 5)))
   <| .nil))
  <| .cons (.frz 3)
  <| .cons (.app 2 (.var 3))
  <| .nil))
 <| .cons (.frz 1)
 <| .cons (.frz 2)
 <| .cons (.ret (.tup (.cons false (.var 2) (.cons false (.comp (.call 2 (.cons false (.var 6) .nil)) (.cons (.nm 6) (.seq (.var 1)) .nil .nil)) .nil))))
 <| .nil)⟩
def fd_classes_of : FD := ⟨2, 7, (.cons (.asg (.nm 2) (.call 5 (.cons false (.var 1) .nil)))
 <| .cons (.asg (.nm 3) (.con (.int 0)))
 <| .cons (.whl (.cmp (.ord .gt) (.b1 .setlen (.bor 2)) (.bor 3)) (.cons (.asg (.nm 3) (.b1 .setlen (.bor 2)))
  <| .cons (.asg (.nm 2) (.call 5 (.cons false (.comp (.tup (.cons false (.idx (.bor 2) (.bor 4)) (.cons true (.comp (.idx (.bor 2) (.bor 6)) (.cons (.nm 6) (.seq (.var 5)) .nil .nil)) .nil))) (.cons (.tp [(.nm 4), (.nm 5)]) (.enum (.var 0)) .nil .nil)) .nil)))
  <| .nil))
 <| .cons (.retb 2)
 <| .nil)⟩
def fd_numbered : FD := ⟨1, 4, (.cons (.asg (.nm 1) .dnil)
 <| .cons (.asg (.nm 2) (.lst .nil))
 <| .cons (.for_ (.nm 3) (.seq (.var 0)) (.cons (.sdef 1 (.var 3) (.b1 .len (.bor 1)))
  <| .cons (.app 2 (.idx (.bor 1) (.bor 3)))
  <| .nil))
 <| .cons (.retb 2)
 <| .nil)⟩
def fd_machine : FD := ⟨0, 7, (.cons (.asg (.tp [(.nm 2), (.nm 3)]) (.call 3 .nil))
 <| .cons (.asg (.nm 0) (.call 4 (.cons false (.var 2) (.cons false (.var 3) .nil))))
 <| .cons (.asg (.nm 1) (.lst .nil))
 <| .cons (.frz 0)
 <| .cons (.for_ (.tp [(.nm 4), (.nm 5)]) (.enum (.var 0)) (.cons (.ite (.cmp .eq (.bor 5) (.b1 .len (.bor 1))) (.cons (.app 1 (.tup (.cons false (.b1 .tuple (.comp (.idx (.bor 0) (.bor 6)) (.cons (.nm 6) (.seq (.idx (.bor 2) (.bor 4))) .nil .nil))) (.cons false (.idx (.bor 3) (.bor 4)) .nil))))
   <| .nil) .nil)
  <| .nil))
 <| .cons (.ret (.b1 .tuple (.bor 1)))
 <| .nil)⟩
def fd_law_whole : FD := ⟨1, 1, (.cons (.ret (.and (.isi (.bor 0) .int) (.not (.isi (.bor 0) .bool))))
 <| .nil)⟩
def fd_law_is_numbers : FD := ⟨2, 3, (.cons (.ite (.not (.isi (.bor 0) .tuple)) (.cons (.ret (.con (.bl false)))
  <| .nil) .nil)
 <| .cons (.ret (.cmp .eq (.comp (.var 2) (.cons (.nm 2) (.seq (.var 0)) (.cons false (.or (.not (.call 7 (.cons false (.var 2) .nil))) (.or (.cmp (.ord .lt) (.bor 2) (.con (.int 0))) (.cmp (.ord .ge) (.bor 2) (.bor 1)))) .nil) .nil)) (.lst .nil)))
 <| .nil)⟩
def fd_law_is_due : FD := ⟨2, 2, (.cons (.ret (.ite (.bor 1) (.cmp .is (.bor 0) (.con (.bl true))) (.cmp .is (.bor 0) (.con (.bl false)))))
 <| .nil)⟩
def fd_law_set_on : FD := ⟨2, 9, (.cons (.asg (.nm 2) (.lst .nil))
 <| .cons (.for_ (.tp [(.nm 3), (.nm 4), (.nm 5)]) (.seq (.var 0)) (.cons (.for_ (.nm 6) (.rng (.con (.int 0)) (.bin .sub (.con (.int 2)) (.bor 5))) (.cons (.for_ (.nm 7) (.rng (.con (.int 0)) (.con (.int 2))) (.cons (.asg (.nm 8) (.bin .sub (.bin .sub (.bin .sub (.bin .sub (.bor 1) (.bin .mul (.con (.int 2)) (.bor 6))) (.bin .mul (.con (.int 3)) (.bor 7))) (.bor 3)) (.bor 4)))
    <| .cons (.ite (.and (.cmp (.ord .ge) (.bor 8) (.con (.int 0))) (.cmp .notin (.tup (.cons false (.var 8) (.cons false (.var 3) (.cons false (.bin .add (.bor 5) (.bor 6)) .nil)))) (.bor 2))) (.cons (.app 2 (.tup (.cons false (.var 8) (.cons false (.var 3) (.cons false (.bin .add (.bor 5) (.bor 6)) .nil)))))
     <| .nil) .nil)
    <| .nil))
   <| .nil))
  <| .nil))
 <| .cons (.ret (.b1 .tuple (.b1 .sorted (.bor 2))))
 <| .nil)⟩
def fd_law_answer : FD := ⟨1, 1, (.cons (.ret (.tup (.cons false (.cmp .isin (.tup (.cons false (.con (.int 0)) (.cons false (.con (.int 0)) (.cons false (.con (.int 0)) .nil)))) (.bor 0)) (.cons false (.cmp .isin (.tup (.cons false (.con (.int 0)) (.cons false (.con (.int 0)) (.cons false (.con (.int 1)) .nil)))) (.bor 0)) .nil))))
 <| .nil)⟩
def fd_law_machine : FD := ⟨0, 19, (.cons (.asg (.nm 0) (.lst (.cons false (.tup (.cons false (.tup (.cons false (.con (.int 0)) (.cons false (.con (.int 0)) (.cons false (.con (.int 0)) .nil)))) .nil)) .nil)))
 <| .cons (.asg (.nm 1) (.lst .nil))
 <| .cons (.asg (.nm 2) .dnil)
 <| .cons (.seti 2 (.idx (.bor 0) (.con (.int 0))) (.con (.int 0)))
 <| .cons (.for_ (.nm 3) (.rng (.con (.int 0)) (.con (.int 1000))) (.cons (.ite (.cmp (.ord .lt) (.bor 3) (.b1 .len (.bor 0))) (.cons (.asg (.nm 11) (.lst .nil))
   <| .cons (.for_ (.nm 12) (.rng (.con (.int 0)) (.con (.int 5))) (.cons (.asg (.nm 16) (.call 10 (.cons false (.idx (.bor 0) (.bor 3)) (.cons false (.var 12) .nil))))
    <| .cons (.ite (.cmp .notin (.bor 16) (.bor 2)) (.cons (.seti 2 (.var 16) (.b1 .len (.bor 0)))
     <| .cons (.app 0 (.var 16))
     <| .nil) .nil)
    <| .cons (.app 11 (.idx (.bor 2) (.bor 16)))
    <| .nil))
   <| .cons (.frz 11)
   <| .cons (.app 1 (.var 11))
   <| .nil) .nil)
  <| .nil))
 <| .cons (.frz 0)
 <| .cons (.asg (.nm 4) (.comp (.bin .add (.b1 .int (.idx (.bor 13) (.con (.int 0)))) (.bin .mul (.con (.int 2)) (.b1 .int (.idx (.bor 13) (.con (.int 1)))))) (.cons (.nm 13) (.seq (.comp (.call 11 (.cons false (.var 17) .nil)) (.cons (.nm 17) (.seq (.var 0)) .nil .nil))) .nil .nil)))
 <| .cons (.for_ (.nm 3) (.rng (.con (.int 0)) (.b1 .len (.bor 0))) (.cons (.asg (.nm 8) .dnil)
  <| .cons (.asg (.nm 9) (.lst .nil))
  <| .cons (.for_ (.nm 6) (.rng (.con (.int 0)) (.b1 .len (.bor 0))) (.cons (.asg (.nm 14) (.bin .add (.tup (.cons false (.idx (.bor 4) (.bor 6)) .nil)) (.b1 .tuple (.comp (.idx (.bor 4) (.bor 18)) (.cons (.nm 18) (.seq (.idx (.bor 1) (.bor 6))) .nil .nil)))))
   <| .cons (.ite (.cmp .notin (.bor 14) (.bor 8)) (.cons (.seti 8 (.var 14) (.b1 .len (.bor 8)))
    <| .nil) .nil)
   <| .cons (.app 9 (.idx (.bor 8) (.bor 14)))
   <| .nil))
  <| .cons (.asg (.nm 10) (.and (.cmp .eq (.b1 .max (.bor 9)) (.b1 .max (.bor 4))) (.cmp (.ord .gt) (.bor 3) (.con (.int 0)))))
  <| .cons (.frz 9)
  <| .cons (.asg (.nm 4) (.var 9))
  <| .cons (.ite (.bor 10) (.cons .brk
   <| .nil) .nil)
  <| .nil))
 <| .cons (.asg (.nm 5) (.lst .nil))
 <| .cons (.for_ (.nm 6) (.rng (.con (.int 0)) (.b1 .len (.bor 0))) (.cons (.ite (.cmp .notin (.idx (.bor 4) (.bor 6)) (.bor 5)) (.cons (.app 5 (.idx (.bor 4) (.bor 6)))
   <| .nil) .nil)
  <| .nil))
 <| .cons (.frz 5)
 <| .cons (.asg (.nm 7) (.comp (.index (.bor 4) (.bor 15)) (.cons (.nm 15) (.seq (.var 5)) .nil .nil)))
 <| .cons (.frz 7)
 <| .cons (.ret (.tup (.cons false (.b1 .tuple (.comp (.b1 .tuple (.comp (.index (.bor 5) (.idx (.bor 4) (.bor 18))) (.cons (.nm 18) (.seq (.idx (.bor 1) (.bor 6))) .nil .nil))) (.cons (.nm 6) (.seq (.var 7)) .nil .nil))) (.cons false (.b1 .tuple (.comp (.call 11 (.cons false (.idx (.bor 0) (.bor 6)) .nil)) (.cons (.nm 6) (.seq (.var 7)) .nil .nil))) .nil))))
 <| .nil)⟩
def fd_law : FD := ⟨1, 5, (.cons (.asg (.tp [(.nm 3), (.nm 4)]) (.call 12 .nil))
 <| .cons (.asg (.nm 1) (.call 6 .nil))
 <| .cons (.ite (.or (.not (.isi (.bor 1) .tuple)) (.or (.cmp .ne (.b1 .len (.bor 1)) (.con (.int 56))) (.cmp .ne (.b1 .len (.bor 3)) (.con (.int 56))))) (.cons (.ret (.con (.bl false)))
  <| .nil) .nil)
 <| .cons (.for_ (.nm 2) (.rng (.con (.int 0)) (.con (.int 56))) (.cons (.ite (.or (.not (.isi (.idx (.bor 1) (.bor 2)) .tuple)) (.or (.cmp .ne (.b1 .len (.idx (.bor 1) (.bor 2))) (.con (.int 2))) (.or (.not (.call 8 (.cons false (.idx (.idx (.bor 1) (.bor 2)) (.con (.int 0))) (.cons false (.con (.int 56)) .nil)))) (.cmp .ne (.idx (.idx (.bor 1) (.bor 2)) (.con (.int 0))) (.idx (.bor 3) (.bor 2)))))) (.cons (.ret (.con (.bl false)))
   <| .nil) .nil)
  <| .cons (.ite (.or (.not (.isi (.idx (.idx (.bor 1) (.bor 2)) (.con (.int 1))) .tuple)) (.or (.cmp .ne (.b1 .len (.idx (.idx (.bor 1) (.bor 2)) (.con (.int 1)))) (.con (.int 2))) (.or (.not (.call 9 (.cons false (.idx (.idx (.idx (.bor 1) (.bor 2)) (.con (.int 1))) (.con (.int 0))) (.cons false (.idx (.idx (.bor 4) (.bor 2)) (.con (.int 0))) .nil)))) (.not (.call 9 (.cons false (.idx (.idx (.idx (.bor 1) (.bor 2)) (.con (.int 1))) (.con (.int 1))) (.cons false (.idx (.idx (.bor 4) (.bor 2)) (.con (.int 1))) .nil))))))) (.cons (.ret (.con (.bl false)))
   <| .nil) .nil)
  <| .nil))
 <| .cons (.ret (.cmp .eq (.call 6 .nil) (.bor 1)))
 <| .nil)⟩
def P : Prog where
  fn := fun n => match n with
    | 0 => some fd_goings
    | 1 => some fd_stands_behind
    | 2 => some fd_marks_of
    | 3 => some fd_sets_reached
    | 4 => some fd_classes_of
    | 5 => some fd_numbered
    | 6 => some fd_machine
    | 7 => some fd_law_whole
    | 8 => some fd_law_is_numbers
    | 9 => some fd_law_is_due
    | 10 => some fd_law_set_on
    | 11 => some fd_law_answer
    | 12 => some fd_law_machine
    | 13 => some fd_law
    | _ => none
  flds := []
  lenf := []
  eqf := []
def lawN : Nat := 13
end MW
namespace MW
open PySem (Str)
def Aq0 : D := .tup [.int 0, .int 0, .int 0]
def Aq1 : D := .dct [(.tup [Aq0], .int 0)]
def Aq2 : D := .tup [.int 1, .int 0, .int 0]
def Aq3 : D := .tup [.int 0, .int 0, .int 1]
def Aq4 : D := .tup [.int 2, .int 0, .int 0]
def Aq5 : D := .tup [.int 1, .int 0, .int 1]
def Aq6 : D := .tup [.int 3, .int 0, .int 0]
def Aq7 : D := .tup [Aq0, Aq5, Aq6]
def Aq8 : D := .tup [.int 2, .int 0, .int 1]
def Aq9 : D := .tup [.int 4, .int 0, .int 0]
def Aq10 : D := .tup [Aq2, Aq8, Aq9]
def Aq11 : D := .tup [.int 0, .int 1, .int 0]
def Aq12 : D := .tup [.int 1, .int 1, .int 0]
def Aq13 : D := .tup [.int 0, .int 1, .int 1]
def Aq14 : D := .tup [.int 2, .int 1, .int 0]
def Aq15 : D := .tup [.int 1, .int 1, .int 1]
def Aq16 : D := .tup [.int 3, .int 1, .int 0]
def Aq17 : D := .tup [Aq11, Aq15, Aq16]
def Aq18 : D := .tup [.int 0, .int 2, .int 0]
def Aq19 : D := .tup [.int 1, .int 2, .int 0]
def Aq20 : D := .tup [.int 3, .int 0, .int 1]
def Aq21 : D := .tup [Aq3, Aq19, Aq20]
def Aq22 : D := .tup [.int 0, .int 2, .int 1]
def Aq23 : D := .tup [.int 2, .int 2, .int 0]
def Aq24 : D := .tup [.int 4, .int 0, .int 1]
def Aq25 : D := .tup [Aq22, Aq5, Aq23, Aq24]
def Aq26 : D := .tup [Aq3, Aq15, Aq4]
def Aq27 : D := .tup [.int 0, .int 3, .int 0]
def Aq28 : D := .tup [.int 2, .int 1, .int 1]
def Aq29 : D := .tup [Aq0, Aq27, Aq5, Aq28, Aq6]
def Aq30 : D := .tup [.int 1, .int 3, .int 0]
def Aq31 : D := .tup [.int 3, .int 1, .int 1]
def Aq32 : D := .tup [Aq13, Aq2, Aq30, Aq8, Aq31, Aq9]
def Aq33 : D := .dct [(.tup [Aq0], .int 0), (.tup [Aq2], .int 1), (.tup [Aq3, Aq4], .int 2), (Aq7, .int 3), (Aq10, .int 4), (.tup [], .int 5), (.tup [Aq11], .int 6), (.tup [Aq12], .int 7), (.tup [Aq13, Aq14], .int 8), (Aq17, .int 9), (.tup [Aq3], .int 10), (.tup [Aq5], .int 11), (.tup [Aq18, Aq8], .int 12), (Aq21, .int 13), (Aq25, .int 14), (.tup [Aq13, Aq2], .int 15), (Aq26, .int 16), (Aq29, .int 17), (Aq32, .int 18)]
def Aq34 : D := .lst [.tup [Aq0], .tup [Aq2], .tup [Aq3, Aq4], Aq7, Aq10, .tup [], .tup [Aq11], .tup [Aq12], .tup [Aq13, Aq14], Aq17, .tup [Aq3], .tup [Aq5], .tup [Aq18, Aq8], Aq21, Aq25, .tup [Aq13, Aq2], Aq26, Aq29, Aq32]
def Aq35 : D := .lst [.int 0, .int 1, .int 2, .int 3, .int 4]
def Aq36 : D := .lst [.int 5, .int 6, .int 7, .int 8, .int 9]
def Aq37 : D := .lst [.int 10, .int 11, .int 12, .int 13, .int 14]
def Aq38 : D := .lst [.int 0, .int 15, .int 16, .int 17, .int 18]
def Aq39 : D := .lst [Aq35, Aq36, Aq37, Aq38]
def Aq40 : D := .tup [.int 1, .int 2, .int 1]
def Aq41 : D := .tup [Aq13, Aq40, Aq14]
def Aq42 : D := .tup [.int 0, .int 4, .int 0]
def Aq43 : D := .tup [.int 2, .int 2, .int 1]
def Aq44 : D := .tup [Aq11, Aq42, Aq15, Aq43, Aq16]
def Aq45 : D := .dct [(.tup [Aq0], .int 0), (.tup [Aq2], .int 1), (.tup [Aq3, Aq4], .int 2), (Aq7, .int 3), (Aq10, .int 4), (.tup [], .int 5), (.tup [Aq11], .int 6), (.tup [Aq12], .int 7), (.tup [Aq13, Aq14], .int 8), (Aq17, .int 9), (.tup [Aq3], .int 10), (.tup [Aq5], .int 11), (.tup [Aq18, Aq8], .int 12), (Aq21, .int 13), (Aq25, .int 14), (.tup [Aq13, Aq2], .int 15), (Aq26, .int 16), (Aq29, .int 17), (Aq32, .int 18), (.tup [Aq22, Aq12], .int 19), (Aq41, .int 20), (Aq44, .int 21)]
def Aq46 : D := .lst [.tup [Aq0], .tup [Aq2], .tup [Aq3, Aq4], Aq7, Aq10, .tup [], .tup [Aq11], .tup [Aq12], .tup [Aq13, Aq14], Aq17, .tup [Aq3], .tup [Aq5], .tup [Aq18, Aq8], Aq21, Aq25, .tup [Aq13, Aq2], Aq26, Aq29, Aq32, .tup [Aq22, Aq12], Aq41, Aq44]
def Aq47 : D := .lst [.int 5, .int 6, .int 19, .int 20, .int 21]
def Aq48 : D := .lst [.int 5, .int 5, .int 5, .int 5, .int 5]
def Aq49 : D := .lst [.int 5, .int 0, .int 1, .int 2, .int 3]
def Aq50 : D := .lst [.int 5, .int 5, .int 6, .int 7, .int 8]
def Aq51 : D := .lst [Aq35, Aq36, Aq37, Aq38, Aq47, Aq48, Aq49, Aq50]
def Aq52 : D := .dct [(.tup [Aq0], .int 0), (.tup [Aq2], .int 1), (.tup [Aq3, Aq4], .int 2), (Aq7, .int 3), (Aq10, .int 4), (.tup [], .int 5), (.tup [Aq11], .int 6), (.tup [Aq12], .int 7), (.tup [Aq13, Aq14], .int 8), (Aq17, .int 9), (.tup [Aq3], .int 10), (.tup [Aq5], .int 11), (.tup [Aq18, Aq8], .int 12), (Aq21, .int 13), (Aq25, .int 14), (.tup [Aq13, Aq2], .int 15), (Aq26, .int 16), (Aq29, .int 17), (Aq32, .int 18), (.tup [Aq22, Aq12], .int 19), (Aq41, .int 20), (Aq44, .int 21), (.tup [Aq8], .int 22), (.tup [Aq3, Aq20], .int 23), (.tup [Aq5, Aq24], .int 24), (.tup [Aq13], .int 25), (.tup [Aq15], .int 26), (.tup [Aq28], .int 27), (.tup [Aq13, Aq31], .int 28)]
def Aq53 : D := .lst [.tup [Aq0], .tup [Aq2], .tup [Aq3, Aq4], Aq7, Aq10, .tup [], .tup [Aq11], .tup [Aq12], .tup [Aq13, Aq14], Aq17, .tup [Aq3], .tup [Aq5], .tup [Aq18, Aq8], Aq21, Aq25, .tup [Aq13, Aq2], Aq26, Aq29, Aq32, .tup [Aq22, Aq12], Aq41, Aq44, .tup [Aq8], .tup [Aq3, Aq20], .tup [Aq5, Aq24], .tup [Aq13], .tup [Aq15], .tup [Aq28], .tup [Aq13, Aq31]]
def Aq54 : D := .lst [.int 5, .int 10, .int 11, .int 12, .int 13]
def Aq55 : D := .lst [.int 5, .int 0, .int 15, .int 16, .int 17]
def Aq56 : D := .lst [.int 10, .int 11, .int 22, .int 23, .int 24]
def Aq57 : D := .lst [.int 5, .int 25, .int 26, .int 27, .int 28]
def Aq58 : D := .lst [Aq35, Aq36, Aq37, Aq38, Aq47, Aq48, Aq49, Aq50, Aq54, Aq55, Aq56, Aq57]
def Aq59 : D := .tup [Aq3, Aq4, Aq43]
def Aq60 : D := .tup [.int 0, .int 3, .int 1]
def Aq61 : D := .tup [Aq3, Aq11, Aq60, Aq20]
def Aq62 : D := .tup [.int 1, .int 3, .int 1]
def Aq63 : D := .tup [Aq5, Aq12, Aq62, Aq24]
def Aq64 : D := .tup [.int 0, .int 4, .int 1]
def Aq65 : D := .tup [Aq13, Aq18, Aq64, Aq8, Aq31]
def Aq66 : D := .tup [Aq13, Aq8, Aq14]
def Aq67 : D := .tup [Aq3, Aq11, Aq15, Aq20, Aq16]
def Aq68 : D := .dct [(.tup [Aq0], .int 0), (.tup [Aq2], .int 1), (.tup [Aq3, Aq4], .int 2), (Aq7, .int 3), (Aq10, .int 4), (.tup [], .int 5), (.tup [Aq11], .int 6), (.tup [Aq12], .int 7), (.tup [Aq13, Aq14], .int 8), (Aq17, .int 9), (.tup [Aq3], .int 10), (.tup [Aq5], .int 11), (.tup [Aq18, Aq8], .int 12), (Aq21, .int 13), (Aq25, .int 14), (.tup [Aq13, Aq2], .int 15), (Aq26, .int 16), (Aq29, .int 17), (Aq32, .int 18), (.tup [Aq22, Aq12], .int 19), (Aq41, .int 20), (Aq44, .int 21), (.tup [Aq8], .int 22), (.tup [Aq3, Aq20], .int 23), (.tup [Aq5, Aq24], .int 24), (.tup [Aq13], .int 25), (.tup [Aq15], .int 26), (.tup [Aq28], .int 27), (.tup [Aq13, Aq31], .int 28), (.tup [Aq0, Aq22], .int 29), (.tup [Aq2, Aq40], .int 30), (Aq59, .int 31), (Aq61, .int 32), (Aq63, .int 33), (.tup [Aq3, Aq15], .int 34), (.tup [Aq5, Aq28], .int 35), (Aq65, .int 36), (.tup [Aq3, Aq11], .int 37), (.tup [Aq5, Aq12], .int 38), (Aq66, .int 39), (Aq67, .int 40)]
def Aq69 : D := .lst [.tup [Aq0], .tup [Aq2], .tup [Aq3, Aq4], Aq7, Aq10, .tup [], .tup [Aq11], .tup [Aq12], .tup [Aq13, Aq14], Aq17, .tup [Aq3], .tup [Aq5], .tup [Aq18, Aq8], Aq21, Aq25, .tup [Aq13, Aq2], Aq26, Aq29, Aq32, .tup [Aq22, Aq12], Aq41, Aq44, .tup [Aq8], .tup [Aq3, Aq20], .tup [Aq5, Aq24], .tup [Aq13], .tup [Aq15], .tup [Aq28], .tup [Aq13, Aq31], .tup [Aq0, Aq22], .tup [Aq2, Aq40], Aq59, Aq61, Aq63, .tup [Aq3, Aq15], .tup [Aq5, Aq28], Aq65, .tup [Aq3, Aq11], .tup [Aq5, Aq12], Aq66, Aq67]
def Aq70 : D := .lst [.int 5, .int 5, .int 29, .int 30, .int 31]
def Aq71 : D := .lst [.int 10, .int 11, .int 22, .int 32, .int 33]
def Aq72 : D := .lst [.int 5, .int 25, .int 34, .int 35, .int 36]
def Aq73 : D := .lst [.int 5, .int 37, .int 38, .int 39, .int 40]
def Aq74 : D := .lst [Aq35, Aq36, Aq37, Aq38, Aq47, Aq48, Aq49, Aq50, Aq54, Aq55, Aq56, Aq57, Aq70, Aq71, Aq72, Aq73]
def Aq75 : D := .tup [Aq13, Aq18, Aq8]
def Aq76 : D := .tup [Aq3, Aq15, Aq19, Aq20]
def Aq77 : D := .tup [Aq22, Aq5, Aq28, Aq23, Aq24]
def Aq78 : D := .tup [Aq0, Aq22, Aq27, Aq5, Aq28, Aq6]
def Aq79 : D := .tup [Aq13, Aq2, Aq40, Aq30, Aq8, Aq31, Aq9]
def Aq80 : D := .tup [Aq22, Aq5, Aq12]
def Aq81 : D := .tup [Aq13, Aq40, Aq8, Aq14]
def Aq82 : D := .tup [Aq3, Aq11, Aq60, Aq42, Aq15, Aq43, Aq20, Aq16]
def Aq83 : D := .dct [(.tup [Aq0], .int 0), (.tup [Aq2], .int 1), (.tup [Aq3, Aq4], .int 2), (Aq7, .int 3), (Aq10, .int 4), (.tup [], .int 5), (.tup [Aq11], .int 6), (.tup [Aq12], .int 7), (.tup [Aq13, Aq14], .int 8), (Aq17, .int 9), (.tup [Aq3], .int 10), (.tup [Aq5], .int 11), (.tup [Aq18, Aq8], .int 12), (Aq21, .int 13), (Aq25, .int 14), (.tup [Aq13, Aq2], .int 15), (Aq26, .int 16), (Aq29, .int 17), (Aq32, .int 18), (.tup [Aq22, Aq12], .int 19), (Aq41, .int 20), (Aq44, .int 21), (.tup [Aq8], .int 22), (.tup [Aq3, Aq20], .int 23), (.tup [Aq5, Aq24], .int 24), (.tup [Aq13], .int 25), (.tup [Aq15], .int 26), (.tup [Aq28], .int 27), (.tup [Aq13, Aq31], .int 28), (.tup [Aq0, Aq22], .int 29), (.tup [Aq2, Aq40], .int 30), (Aq59, .int 31), (Aq61, .int 32), (Aq63, .int 33), (.tup [Aq3, Aq15], .int 34), (.tup [Aq5, Aq28], .int 35), (Aq65, .int 36), (.tup [Aq3, Aq11], .int 37), (.tup [Aq5, Aq12], .int 38), (Aq66, .int 39), (Aq67, .int 40), (Aq75, .int 41), (Aq76, .int 42), (Aq77, .int 43), (Aq78, .int 44), (Aq79, .int 45), (Aq80, .int 46), (Aq81, .int 47), (Aq82, .int 48)]
def Aq84 : D := .lst [.tup [Aq0], .tup [Aq2], .tup [Aq3, Aq4], Aq7, Aq10, .tup [], .tup [Aq11], .tup [Aq12], .tup [Aq13, Aq14], Aq17, .tup [Aq3], .tup [Aq5], .tup [Aq18, Aq8], Aq21, Aq25, .tup [Aq13, Aq2], Aq26, Aq29, Aq32, .tup [Aq22, Aq12], Aq41, Aq44, .tup [Aq8], .tup [Aq3, Aq20], .tup [Aq5, Aq24], .tup [Aq13], .tup [Aq15], .tup [Aq28], .tup [Aq13, Aq31], .tup [Aq0, Aq22], .tup [Aq2, Aq40], Aq59, Aq61, Aq63, .tup [Aq3, Aq15], .tup [Aq5, Aq28], Aq65, .tup [Aq3, Aq11], .tup [Aq5, Aq12], Aq66, Aq67, Aq75, Aq76, Aq77, Aq78, Aq79, Aq80, Aq81, Aq82]
def Aq85 : D := .lst [.int 10, .int 11, .int 41, .int 42, .int 43]
def Aq86 : D := .lst [.int 0, .int 15, .int 16, .int 44, .int 45]
def Aq87 : D := .lst [.int 5, .int 37, .int 46, .int 47, .int 48]
def Aq88 : D := .lst [.int 5, .int 5, .int 37, .int 38, .int 39]
def Aq89 : D := .lst [Aq35, Aq36, Aq37, Aq38, Aq47, Aq48, Aq49, Aq50, Aq54, Aq55, Aq56, Aq57, Aq70, Aq71, Aq72, Aq73, Aq85, Aq86, Aq87, Aq88]
def Aq90 : D := .tup [Aq3, Aq60, Aq20]
def Aq91 : D := .tup [Aq5, Aq62, Aq24]
def Aq92 : D := .dct [(.tup [Aq0], .int 0), (.tup [Aq2], .int 1), (.tup [Aq3, Aq4], .int 2), (Aq7, .int 3), (Aq10, .int 4), (.tup [], .int 5), (.tup [Aq11], .int 6), (.tup [Aq12], .int 7), (.tup [Aq13, Aq14], .int 8), (Aq17, .int 9), (.tup [Aq3], .int 10), (.tup [Aq5], .int 11), (.tup [Aq18, Aq8], .int 12), (Aq21, .int 13), (Aq25, .int 14), (.tup [Aq13, Aq2], .int 15), (Aq26, .int 16), (Aq29, .int 17), (Aq32, .int 18), (.tup [Aq22, Aq12], .int 19), (Aq41, .int 20), (Aq44, .int 21), (.tup [Aq8], .int 22), (.tup [Aq3, Aq20], .int 23), (.tup [Aq5, Aq24], .int 24), (.tup [Aq13], .int 25), (.tup [Aq15], .int 26), (.tup [Aq28], .int 27), (.tup [Aq13, Aq31], .int 28), (.tup [Aq0, Aq22], .int 29), (.tup [Aq2, Aq40], .int 30), (Aq59, .int 31), (Aq61, .int 32), (Aq63, .int 33), (.tup [Aq3, Aq15], .int 34), (.tup [Aq5, Aq28], .int 35), (Aq65, .int 36), (.tup [Aq3, Aq11], .int 37), (.tup [Aq5, Aq12], .int 38), (Aq66, .int 39), (Aq67, .int 40), (Aq75, .int 41), (Aq76, .int 42), (Aq77, .int 43), (Aq78, .int 44), (Aq79, .int 45), (Aq80, .int 46), (Aq81, .int 47), (Aq82, .int 48), (.tup [Aq22], .int 49), (.tup [Aq40], .int 50), (.tup [Aq43], .int 51), (Aq90, .int 52), (Aq91, .int 53)]
def Aq93 : D := .lst [.tup [Aq0], .tup [Aq2], .tup [Aq3, Aq4], Aq7, Aq10, .tup [], .tup [Aq11], .tup [Aq12], .tup [Aq13, Aq14], Aq17, .tup [Aq3], .tup [Aq5], .tup [Aq18, Aq8], Aq21, Aq25, .tup [Aq13, Aq2], Aq26, Aq29, Aq32, .tup [Aq22, Aq12], Aq41, Aq44, .tup [Aq8], .tup [Aq3, Aq20], .tup [Aq5, Aq24], .tup [Aq13], .tup [Aq15], .tup [Aq28], .tup [Aq13, Aq31], .tup [Aq0, Aq22], .tup [Aq2, Aq40], Aq59, Aq61, Aq63, .tup [Aq3, Aq15], .tup [Aq5, Aq28], Aq65, .tup [Aq3, Aq11], .tup [Aq5, Aq12], Aq66, Aq67, Aq75, Aq76, Aq77, Aq78, Aq79, Aq80, Aq81, Aq82, .tup [Aq22], .tup [Aq40], .tup [Aq43], Aq90, Aq91]
def Aq94 : D := .lst [.int 5, .int 10, .int 11, .int 41, .int 42]
def Aq95 : D := .lst [.int 5, .int 0, .int 15, .int 16, .int 44]
def Aq96 : D := .lst [.int 5, .int 5, .int 49, .int 50, .int 51]
def Aq97 : D := .lst [.int 10, .int 11, .int 22, .int 52, .int 53]
def Aq98 : D := .lst [Aq35, Aq36, Aq37, Aq38, Aq47, Aq48, Aq49, Aq50, Aq54, Aq55, Aq56, Aq57, Aq70, Aq71, Aq72, Aq73, Aq85, Aq86, Aq87, Aq88, Aq94, Aq95, Aq96, Aq97]
def Aq99 : D := .tup [Aq13, Aq64, Aq31]
def Aq100 : D := .dct [(.tup [Aq0], .int 0), (.tup [Aq2], .int 1), (.tup [Aq3, Aq4], .int 2), (Aq7, .int 3), (Aq10, .int 4), (.tup [], .int 5), (.tup [Aq11], .int 6), (.tup [Aq12], .int 7), (.tup [Aq13, Aq14], .int 8), (Aq17, .int 9), (.tup [Aq3], .int 10), (.tup [Aq5], .int 11), (.tup [Aq18, Aq8], .int 12), (Aq21, .int 13), (Aq25, .int 14), (.tup [Aq13, Aq2], .int 15), (Aq26, .int 16), (Aq29, .int 17), (Aq32, .int 18), (.tup [Aq22, Aq12], .int 19), (Aq41, .int 20), (Aq44, .int 21), (.tup [Aq8], .int 22), (.tup [Aq3, Aq20], .int 23), (.tup [Aq5, Aq24], .int 24), (.tup [Aq13], .int 25), (.tup [Aq15], .int 26), (.tup [Aq28], .int 27), (.tup [Aq13, Aq31], .int 28), (.tup [Aq0, Aq22], .int 29), (.tup [Aq2, Aq40], .int 30), (Aq59, .int 31), (Aq61, .int 32), (Aq63, .int 33), (.tup [Aq3, Aq15], .int 34), (.tup [Aq5, Aq28], .int 35), (Aq65, .int 36), (.tup [Aq3, Aq11], .int 37), (.tup [Aq5, Aq12], .int 38), (Aq66, .int 39), (Aq67, .int 40), (Aq75, .int 41), (Aq76, .int 42), (Aq77, .int 43), (Aq78, .int 44), (Aq79, .int 45), (Aq80, .int 46), (Aq81, .int 47), (Aq82, .int 48), (.tup [Aq22], .int 49), (.tup [Aq40], .int 50), (.tup [Aq43], .int 51), (Aq90, .int 52), (Aq91, .int 53), (Aq99, .int 54)]
def Aq101 : D := .lst [.tup [Aq0], .tup [Aq2], .tup [Aq3, Aq4], Aq7, Aq10, .tup [], .tup [Aq11], .tup [Aq12], .tup [Aq13, Aq14], Aq17, .tup [Aq3], .tup [Aq5], .tup [Aq18, Aq8], Aq21, Aq25, .tup [Aq13, Aq2], Aq26, Aq29, Aq32, .tup [Aq22, Aq12], Aq41, Aq44, .tup [Aq8], .tup [Aq3, Aq20], .tup [Aq5, Aq24], .tup [Aq13], .tup [Aq15], .tup [Aq28], .tup [Aq13, Aq31], .tup [Aq0, Aq22], .tup [Aq2, Aq40], Aq59, Aq61, Aq63, .tup [Aq3, Aq15], .tup [Aq5, Aq28], Aq65, .tup [Aq3, Aq11], .tup [Aq5, Aq12], Aq66, Aq67, Aq75, Aq76, Aq77, Aq78, Aq79, Aq80, Aq81, Aq82, .tup [Aq22], .tup [Aq40], .tup [Aq43], Aq90, Aq91, Aq99]
def Aq102 : D := .lst [.int 5, .int 25, .int 26, .int 27, .int 54]
def Aq103 : D := .lst [.int 5, .int 10, .int 11, .int 22, .int 23]
def Aq104 : D := .lst [.int 5, .int 5, .int 25, .int 26, .int 27]
def Aq105 : D := .lst [.int 5, .int 5, .int 5, .int 49, .int 50]
def Aq106 : D := .lst [Aq35, Aq36, Aq37, Aq38, Aq47, Aq48, Aq49, Aq50, Aq54, Aq55, Aq56, Aq57, Aq70, Aq71, Aq72, Aq73, Aq85, Aq86, Aq87, Aq88, Aq94, Aq95, Aq96, Aq97, Aq102, Aq103, Aq104, Aq105]
def Aq107 : D := .lst [.int 5, .int 10, .int 11, .int 22, .int 52]
def Aq108 : D := .lst [Aq35, Aq36, Aq37, Aq38, Aq47, Aq48, Aq49, Aq50, Aq54, Aq55, Aq56, Aq57, Aq70, Aq71, Aq72, Aq73, Aq85, Aq86, Aq87, Aq88, Aq94, Aq95, Aq96, Aq97, Aq102, Aq103, Aq104, Aq105, Aq107, Aq35, Aq36, Aq37]
def Aq109 : D := .tup [Aq3, Aq60, Aq4, Aq20]
def Aq110 : D := .tup [Aq0, Aq5, Aq62, Aq6, Aq24]
def Aq111 : D := .tup [Aq13, Aq64, Aq14, Aq31]
def Aq112 : D := .tup [Aq3, Aq15, Aq20]
def Aq113 : D := .tup [Aq5, Aq28, Aq24]
def Aq114 : D := .tup [Aq13, Aq40, Aq31]
def Aq115 : D := .dct [(.tup [Aq0], .int 0), (.tup [Aq2], .int 1), (.tup [Aq3, Aq4], .int 2), (Aq7, .int 3), (Aq10, .int 4), (.tup [], .int 5), (.tup [Aq11], .int 6), (.tup [Aq12], .int 7), (.tup [Aq13, Aq14], .int 8), (Aq17, .int 9), (.tup [Aq3], .int 10), (.tup [Aq5], .int 11), (.tup [Aq18, Aq8], .int 12), (Aq21, .int 13), (Aq25, .int 14), (.tup [Aq13, Aq2], .int 15), (Aq26, .int 16), (Aq29, .int 17), (Aq32, .int 18), (.tup [Aq22, Aq12], .int 19), (Aq41, .int 20), (Aq44, .int 21), (.tup [Aq8], .int 22), (.tup [Aq3, Aq20], .int 23), (.tup [Aq5, Aq24], .int 24), (.tup [Aq13], .int 25), (.tup [Aq15], .int 26), (.tup [Aq28], .int 27), (.tup [Aq13, Aq31], .int 28), (.tup [Aq0, Aq22], .int 29), (.tup [Aq2, Aq40], .int 30), (Aq59, .int 31), (Aq61, .int 32), (Aq63, .int 33), (.tup [Aq3, Aq15], .int 34), (.tup [Aq5, Aq28], .int 35), (Aq65, .int 36), (.tup [Aq3, Aq11], .int 37), (.tup [Aq5, Aq12], .int 38), (Aq66, .int 39), (Aq67, .int 40), (Aq75, .int 41), (Aq76, .int 42), (Aq77, .int 43), (Aq78, .int 44), (Aq79, .int 45), (Aq80, .int 46), (Aq81, .int 47), (Aq82, .int 48), (.tup [Aq22], .int 49), (.tup [Aq40], .int 50), (.tup [Aq43], .int 51), (Aq90, .int 52), (Aq91, .int 53), (Aq99, .int 54), (.tup [Aq0, Aq5], .int 55), (.tup [Aq2, Aq8], .int 56), (Aq109, .int 57), (Aq110, .int 58), (.tup [Aq11, Aq15], .int 59), (.tup [Aq12, Aq28], .int 60), (Aq111, .int 61), (.tup [Aq13, Aq8], .int 62), (Aq112, .int 63), (Aq113, .int 64), (.tup [Aq22, Aq28], .int 65), (Aq114, .int 66)]
def Aq116 : D := .lst [.tup [Aq0], .tup [Aq2], .tup [Aq3, Aq4], Aq7, Aq10, .tup [], .tup [Aq11], .tup [Aq12], .tup [Aq13, Aq14], Aq17, .tup [Aq3], .tup [Aq5], .tup [Aq18, Aq8], Aq21, Aq25, .tup [Aq13, Aq2], Aq26, Aq29, Aq32, .tup [Aq22, Aq12], Aq41, Aq44, .tup [Aq8], .tup [Aq3, Aq20], .tup [Aq5, Aq24], .tup [Aq13], .tup [Aq15], .tup [Aq28], .tup [Aq13, Aq31], .tup [Aq0, Aq22], .tup [Aq2, Aq40], Aq59, Aq61, Aq63, .tup [Aq3, Aq15], .tup [Aq5, Aq28], Aq65, .tup [Aq3, Aq11], .tup [Aq5, Aq12], Aq66, Aq67, Aq75, Aq76, Aq77, Aq78, Aq79, Aq80, Aq81, Aq82, .tup [Aq22], .tup [Aq40], .tup [Aq43], Aq90, Aq91, Aq99, .tup [Aq0, Aq5], .tup [Aq2, Aq8], Aq109, Aq110, .tup [Aq11, Aq15], .tup [Aq12, Aq28], Aq111, .tup [Aq13, Aq8], Aq112, Aq113, .tup [Aq22, Aq28], Aq114]
def Aq117 : D := .lst [.int 10, .int 55, .int 56, .int 57, .int 58]
def Aq118 : D := .lst [.int 5, .int 25, .int 59, .int 60, .int 61]
def Aq119 : D := .lst [.int 10, .int 11, .int 62, .int 63, .int 64]
def Aq120 : D := .lst [.int 5, .int 25, .int 26, .int 65, .int 66]
def Aq121 : D := .lst [Aq35, Aq36, Aq37, Aq38, Aq47, Aq48, Aq49, Aq50, Aq54, Aq55, Aq56, Aq57, Aq70, Aq71, Aq72, Aq73, Aq85, Aq86, Aq87, Aq88, Aq94, Aq95, Aq96, Aq97, Aq102, Aq103, Aq104, Aq105, Aq107, Aq35, Aq36, Aq37, Aq117, Aq118, Aq119, Aq120]
def Aq122 : D := .tup [Aq0, Aq22, Aq5]
def Aq123 : D := .tup [Aq2, Aq40, Aq8]
def Aq124 : D := .tup [Aq3, Aq60, Aq4, Aq43, Aq20]
def Aq125 : D := .tup [Aq3, Aq4, Aq20]
def Aq126 : D := .tup [Aq0, Aq5, Aq6, Aq24]
def Aq127 : D := .tup [Aq13, Aq14, Aq31]
def Aq128 : D := .tup [Aq18, Aq40, Aq8]
def Aq129 : D := .tup [Aq3, Aq19, Aq43, Aq20]
def Aq130 : D := .dct [(.tup [Aq0], .int 0), (.tup [Aq2], .int 1), (.tup [Aq3, Aq4], .int 2), (Aq7, .int 3), (Aq10, .int 4), (.tup [], .int 5), (.tup [Aq11], .int 6), (.tup [Aq12], .int 7), (.tup [Aq13, Aq14], .int 8), (Aq17, .int 9), (.tup [Aq3], .int 10), (.tup [Aq5], .int 11), (.tup [Aq18, Aq8], .int 12), (Aq21, .int 13), (Aq25, .int 14), (.tup [Aq13, Aq2], .int 15), (Aq26, .int 16), (Aq29, .int 17), (Aq32, .int 18), (.tup [Aq22, Aq12], .int 19), (Aq41, .int 20), (Aq44, .int 21), (.tup [Aq8], .int 22), (.tup [Aq3, Aq20], .int 23), (.tup [Aq5, Aq24], .int 24), (.tup [Aq13], .int 25), (.tup [Aq15], .int 26), (.tup [Aq28], .int 27), (.tup [Aq13, Aq31], .int 28), (.tup [Aq0, Aq22], .int 29), (.tup [Aq2, Aq40], .int 30), (Aq59, .int 31), (Aq61, .int 32), (Aq63, .int 33), (.tup [Aq3, Aq15], .int 34), (.tup [Aq5, Aq28], .int 35), (Aq65, .int 36), (.tup [Aq3, Aq11], .int 37), (.tup [Aq5, Aq12], .int 38), (Aq66, .int 39), (Aq67, .int 40), (Aq75, .int 41), (Aq76, .int 42), (Aq77, .int 43), (Aq78, .int 44), (Aq79, .int 45), (Aq80, .int 46), (Aq81, .int 47), (Aq82, .int 48), (.tup [Aq22], .int 49), (.tup [Aq40], .int 50), (.tup [Aq43], .int 51), (Aq90, .int 52), (Aq91, .int 53), (Aq99, .int 54), (.tup [Aq0, Aq5], .int 55), (.tup [Aq2, Aq8], .int 56), (Aq109, .int 57), (Aq110, .int 58), (.tup [Aq11, Aq15], .int 59), (.tup [Aq12, Aq28], .int 60), (Aq111, .int 61), (.tup [Aq13, Aq8], .int 62), (Aq112, .int 63), (Aq113, .int 64), (.tup [Aq22, Aq28], .int 65), (Aq114, .int 66), (Aq122, .int 67), (Aq123, .int 68), (Aq124, .int 69), (Aq125, .int 70), (Aq126, .int 71), (Aq127, .int 72), (.tup [Aq22, Aq5], .int 73), (Aq128, .int 74), (Aq129, .int 75)]
def Aq131 : D := .lst [.tup [Aq0], .tup [Aq2], .tup [Aq3, Aq4], Aq7, Aq10, .tup [], .tup [Aq11], .tup [Aq12], .tup [Aq13, Aq14], Aq17, .tup [Aq3], .tup [Aq5], .tup [Aq18, Aq8], Aq21, Aq25, .tup [Aq13, Aq2], Aq26, Aq29, Aq32, .tup [Aq22, Aq12], Aq41, Aq44, .tup [Aq8], .tup [Aq3, Aq20], .tup [Aq5, Aq24], .tup [Aq13], .tup [Aq15], .tup [Aq28], .tup [Aq13, Aq31], .tup [Aq0, Aq22], .tup [Aq2, Aq40], Aq59, Aq61, Aq63, .tup [Aq3, Aq15], .tup [Aq5, Aq28], Aq65, .tup [Aq3, Aq11], .tup [Aq5, Aq12], Aq66, Aq67, Aq75, Aq76, Aq77, Aq78, Aq79, Aq80, Aq81, Aq82, .tup [Aq22], .tup [Aq40], .tup [Aq43], Aq90, Aq91, Aq99, .tup [Aq0, Aq5], .tup [Aq2, Aq8], Aq109, Aq110, .tup [Aq11, Aq15], .tup [Aq12, Aq28], Aq111, .tup [Aq13, Aq8], Aq112, Aq113, .tup [Aq22, Aq28], Aq114, Aq122, Aq123, Aq124, Aq125, Aq126, Aq127, .tup [Aq22, Aq5], Aq128, Aq129]
def Aq132 : D := .lst [.int 5, .int 10, .int 67, .int 68, .int 69]
def Aq133 : D := .lst [.int 10, .int 55, .int 56, .int 70, .int 71]
def Aq134 : D := .lst [.int 5, .int 25, .int 59, .int 60, .int 72]
def Aq135 : D := .lst [.int 5, .int 10, .int 73, .int 74, .int 75]
def Aq136 : D := .lst [Aq35, Aq36, Aq37, Aq38, Aq47, Aq48, Aq49, Aq50, Aq54, Aq55, Aq56, Aq57, Aq70, Aq71, Aq72, Aq73, Aq85, Aq86, Aq87, Aq88, Aq94, Aq95, Aq96, Aq97, Aq102, Aq103, Aq104, Aq105, Aq107, Aq35, Aq36, Aq37, Aq117, Aq118, Aq119, Aq120, Aq132, Aq133, Aq134, Aq135]
def Aq137 : D := .tup [Aq13, Aq2, Aq8]
def Aq138 : D := .tup [Aq3, Aq60, Aq15, Aq4, Aq20]
def Aq139 : D := .tup [Aq0, Aq27, Aq5, Aq62, Aq28, Aq6, Aq24]
def Aq140 : D := .tup [Aq3, Aq4, Aq43, Aq20]
def Aq141 : D := .tup [Aq3, Aq11, Aq60, Aq15, Aq20]
def Aq142 : D := .tup [Aq5, Aq12, Aq62, Aq28, Aq24]
def Aq143 : D := .tup [Aq22, Aq5, Aq28]
def Aq144 : D := .tup [Aq13, Aq18, Aq64, Aq40, Aq8, Aq31]
def Aq145 : D := .dct [(.tup [Aq0], .int 0), (.tup [Aq2], .int 1), (.tup [Aq3, Aq4], .int 2), (Aq7, .int 3), (Aq10, .int 4), (.tup [], .int 5), (.tup [Aq11], .int 6), (.tup [Aq12], .int 7), (.tup [Aq13, Aq14], .int 8), (Aq17, .int 9), (.tup [Aq3], .int 10), (.tup [Aq5], .int 11), (.tup [Aq18, Aq8], .int 12), (Aq21, .int 13), (Aq25, .int 14), (.tup [Aq13, Aq2], .int 15), (Aq26, .int 16), (Aq29, .int 17), (Aq32, .int 18), (.tup [Aq22, Aq12], .int 19), (Aq41, .int 20), (Aq44, .int 21), (.tup [Aq8], .int 22), (.tup [Aq3, Aq20], .int 23), (.tup [Aq5, Aq24], .int 24), (.tup [Aq13], .int 25), (.tup [Aq15], .int 26), (.tup [Aq28], .int 27), (.tup [Aq13, Aq31], .int 28), (.tup [Aq0, Aq22], .int 29), (.tup [Aq2, Aq40], .int 30), (Aq59, .int 31), (Aq61, .int 32), (Aq63, .int 33), (.tup [Aq3, Aq15], .int 34), (.tup [Aq5, Aq28], .int 35), (Aq65, .int 36), (.tup [Aq3, Aq11], .int 37), (.tup [Aq5, Aq12], .int 38), (Aq66, .int 39), (Aq67, .int 40), (Aq75, .int 41), (Aq76, .int 42), (Aq77, .int 43), (Aq78, .int 44), (Aq79, .int 45), (Aq80, .int 46), (Aq81, .int 47), (Aq82, .int 48), (.tup [Aq22], .int 49), (.tup [Aq40], .int 50), (.tup [Aq43], .int 51), (Aq90, .int 52), (Aq91, .int 53), (Aq99, .int 54), (.tup [Aq0, Aq5], .int 55), (.tup [Aq2, Aq8], .int 56), (Aq109, .int 57), (Aq110, .int 58), (.tup [Aq11, Aq15], .int 59), (.tup [Aq12, Aq28], .int 60), (Aq111, .int 61), (.tup [Aq13, Aq8], .int 62), (Aq112, .int 63), (Aq113, .int 64), (.tup [Aq22, Aq28], .int 65), (Aq114, .int 66), (Aq122, .int 67), (Aq123, .int 68), (Aq124, .int 69), (Aq125, .int 70), (Aq126, .int 71), (Aq127, .int 72), (.tup [Aq22, Aq5], .int 73), (Aq128, .int 74), (Aq129, .int 75), (Aq137, .int 76), (Aq138, .int 77), (Aq139, .int 78), (Aq140, .int 79), (Aq141, .int 80), (Aq142, .int 81), (Aq143, .int 82), (Aq144, .int 83)]
def Aq146 : D := .lst [.tup [Aq0], .tup [Aq2], .tup [Aq3, Aq4], Aq7, Aq10, .tup [], .tup [Aq11], .tup [Aq12], .tup [Aq13, Aq14], Aq17, .tup [Aq3], .tup [Aq5], .tup [Aq18, Aq8], Aq21, Aq25, .tup [Aq13, Aq2], Aq26, Aq29, Aq32, .tup [Aq22, Aq12], Aq41, Aq44, .tup [Aq8], .tup [Aq3, Aq20], .tup [Aq5, Aq24], .tup [Aq13], .tup [Aq15], .tup [Aq28], .tup [Aq13, Aq31], .tup [Aq0, Aq22], .tup [Aq2, Aq40], Aq59, Aq61, Aq63, .tup [Aq3, Aq15], .tup [Aq5, Aq28], Aq65, .tup [Aq3, Aq11], .tup [Aq5, Aq12], Aq66, Aq67, Aq75, Aq76, Aq77, Aq78, Aq79, Aq80, Aq81, Aq82, .tup [Aq22], .tup [Aq40], .tup [Aq43], Aq90, Aq91, Aq99, .tup [Aq0, Aq5], .tup [Aq2, Aq8], Aq109, Aq110, .tup [Aq11, Aq15], .tup [Aq12, Aq28], Aq111, .tup [Aq13, Aq8], Aq112, Aq113, .tup [Aq22, Aq28], Aq114, Aq122, Aq123, Aq124, Aq125, Aq126, Aq127, .tup [Aq22, Aq5], Aq128, Aq129, Aq137, Aq138, Aq139, Aq140, Aq141, Aq142, Aq143, Aq144]
def Aq147 : D := .lst [.int 10, .int 55, .int 76, .int 77, .int 78]
def Aq148 : D := .lst [.int 5, .int 10, .int 67, .int 68, .int 79]
def Aq149 : D := .lst [.int 10, .int 11, .int 62, .int 80, .int 81]
def Aq150 : D := .lst [.int 5, .int 25, .int 34, .int 82, .int 83]
def Aq151 : D := .lst [Aq35, Aq36, Aq37, Aq38, Aq47, Aq48, Aq49, Aq50, Aq54, Aq55, Aq56, Aq57, Aq70, Aq71, Aq72, Aq73, Aq85, Aq86, Aq87, Aq88, Aq94, Aq95, Aq96, Aq97, Aq102, Aq103, Aq104, Aq105, Aq107, Aq35, Aq36, Aq37, Aq117, Aq118, Aq119, Aq120, Aq132, Aq133, Aq134, Aq135, Aq147, Aq148, Aq149, Aq150]
def Aq152 : D := .tup [Aq3, Aq11, Aq15]
def Aq153 : D := .tup [Aq5, Aq12, Aq28]
def Aq154 : D := .tup [Aq13, Aq8, Aq14, Aq31]
def Aq155 : D := .tup [Aq13, Aq18, Aq40, Aq8]
def Aq156 : D := .tup [Aq3, Aq15, Aq19, Aq43, Aq20]
def Aq157 : D := .dct [(.tup [Aq0], .int 0), (.tup [Aq2], .int 1), (.tup [Aq3, Aq4], .int 2), (Aq7, .int 3), (Aq10, .int 4), (.tup [], .int 5), (.tup [Aq11], .int 6), (.tup [Aq12], .int 7), (.tup [Aq13, Aq14], .int 8), (Aq17, .int 9), (.tup [Aq3], .int 10), (.tup [Aq5], .int 11), (.tup [Aq18, Aq8], .int 12), (Aq21, .int 13), (Aq25, .int 14), (.tup [Aq13, Aq2], .int 15), (Aq26, .int 16), (Aq29, .int 17), (Aq32, .int 18), (.tup [Aq22, Aq12], .int 19), (Aq41, .int 20), (Aq44, .int 21), (.tup [Aq8], .int 22), (.tup [Aq3, Aq20], .int 23), (.tup [Aq5, Aq24], .int 24), (.tup [Aq13], .int 25), (.tup [Aq15], .int 26), (.tup [Aq28], .int 27), (.tup [Aq13, Aq31], .int 28), (.tup [Aq0, Aq22], .int 29), (.tup [Aq2, Aq40], .int 30), (Aq59, .int 31), (Aq61, .int 32), (Aq63, .int 33), (.tup [Aq3, Aq15], .int 34), (.tup [Aq5, Aq28], .int 35), (Aq65, .int 36), (.tup [Aq3, Aq11], .int 37), (.tup [Aq5, Aq12], .int 38), (Aq66, .int 39), (Aq67, .int 40), (Aq75, .int 41), (Aq76, .int 42), (Aq77, .int 43), (Aq78, .int 44), (Aq79, .int 45), (Aq80, .int 46), (Aq81, .int 47), (Aq82, .int 48), (.tup [Aq22], .int 49), (.tup [Aq40], .int 50), (.tup [Aq43], .int 51), (Aq90, .int 52), (Aq91, .int 53), (Aq99, .int 54), (.tup [Aq0, Aq5], .int 55), (.tup [Aq2, Aq8], .int 56), (Aq109, .int 57), (Aq110, .int 58), (.tup [Aq11, Aq15], .int 59), (.tup [Aq12, Aq28], .int 60), (Aq111, .int 61), (.tup [Aq13, Aq8], .int 62), (Aq112, .int 63), (Aq113, .int 64), (.tup [Aq22, Aq28], .int 65), (Aq114, .int 66), (Aq122, .int 67), (Aq123, .int 68), (Aq124, .int 69), (Aq125, .int 70), (Aq126, .int 71), (Aq127, .int 72), (.tup [Aq22, Aq5], .int 73), (Aq128, .int 74), (Aq129, .int 75), (Aq137, .int 76), (Aq138, .int 77), (Aq139, .int 78), (Aq140, .int 79), (Aq141, .int 80), (Aq142, .int 81), (Aq143, .int 82), (Aq144, .int 83), (Aq152, .int 84), (Aq153, .int 85), (Aq154, .int 86), (Aq155, .int 87), (Aq156, .int 88)]
def Aq158 : D := .lst [.tup [Aq0], .tup [Aq2], .tup [Aq3, Aq4], Aq7, Aq10, .tup [], .tup [Aq11], .tup [Aq12], .tup [Aq13, Aq14], Aq17, .tup [Aq3], .tup [Aq5], .tup [Aq18, Aq8], Aq21, Aq25, .tup [Aq13, Aq2], Aq26, Aq29, Aq32, .tup [Aq22, Aq12], Aq41, Aq44, .tup [Aq8], .tup [Aq3, Aq20], .tup [Aq5, Aq24], .tup [Aq13], .tup [Aq15], .tup [Aq28], .tup [Aq13, Aq31], .tup [Aq0, Aq22], .tup [Aq2, Aq40], Aq59, Aq61, Aq63, .tup [Aq3, Aq15], .tup [Aq5, Aq28], Aq65, .tup [Aq3, Aq11], .tup [Aq5, Aq12], Aq66, Aq67, Aq75, Aq76, Aq77, Aq78, Aq79, Aq80, Aq81, Aq82, .tup [Aq22], .tup [Aq40], .tup [Aq43], Aq90, Aq91, Aq99, .tup [Aq0, Aq5], .tup [Aq2, Aq8], Aq109, Aq110, .tup [Aq11, Aq15], .tup [Aq12, Aq28], Aq111, .tup [Aq13, Aq8], Aq112, Aq113, .tup [Aq22, Aq28], Aq114, Aq122, Aq123, Aq124, Aq125, Aq126, Aq127, .tup [Aq22, Aq5], Aq128, Aq129, Aq137, Aq138, Aq139, Aq140, Aq141, Aq142, Aq143, Aq144, Aq152, Aq153, Aq154, Aq155, Aq156]
def Aq159 : D := .lst [.int 5, .int 25, .int 84, .int 85, .int 86]
def Aq160 : D := .lst [.int 5, .int 10, .int 73, .int 87, .int 88]
def Aq161 : D := .lst [Aq35, Aq36, Aq37, Aq38, Aq47, Aq48, Aq49, Aq50, Aq54, Aq55, Aq56, Aq57, Aq70, Aq71, Aq72, Aq73, Aq85, Aq86, Aq87, Aq88, Aq94, Aq95, Aq96, Aq97, Aq102, Aq103, Aq104, Aq105, Aq107, Aq35, Aq36, Aq37, Aq117, Aq118, Aq119, Aq120, Aq132, Aq133, Aq134, Aq135, Aq147, Aq148, Aq149, Aq150, Aq86, Aq87, Aq159, Aq160]
def Aq162 : D := .tup [Aq0, Aq22, Aq27, Aq5, Aq62, Aq28, Aq6, Aq24]
def Aq163 : D := .dct [(.tup [Aq0], .int 0), (.tup [Aq2], .int 1), (.tup [Aq3, Aq4], .int 2), (Aq7, .int 3), (Aq10, .int 4), (.tup [], .int 5), (.tup [Aq11], .int 6), (.tup [Aq12], .int 7), (.tup [Aq13, Aq14], .int 8), (Aq17, .int 9), (.tup [Aq3], .int 10), (.tup [Aq5], .int 11), (.tup [Aq18, Aq8], .int 12), (Aq21, .int 13), (Aq25, .int 14), (.tup [Aq13, Aq2], .int 15), (Aq26, .int 16), (Aq29, .int 17), (Aq32, .int 18), (.tup [Aq22, Aq12], .int 19), (Aq41, .int 20), (Aq44, .int 21), (.tup [Aq8], .int 22), (.tup [Aq3, Aq20], .int 23), (.tup [Aq5, Aq24], .int 24), (.tup [Aq13], .int 25), (.tup [Aq15], .int 26), (.tup [Aq28], .int 27), (.tup [Aq13, Aq31], .int 28), (.tup [Aq0, Aq22], .int 29), (.tup [Aq2, Aq40], .int 30), (Aq59, .int 31), (Aq61, .int 32), (Aq63, .int 33), (.tup [Aq3, Aq15], .int 34), (.tup [Aq5, Aq28], .int 35), (Aq65, .int 36), (.tup [Aq3, Aq11], .int 37), (.tup [Aq5, Aq12], .int 38), (Aq66, .int 39), (Aq67, .int 40), (Aq75, .int 41), (Aq76, .int 42), (Aq77, .int 43), (Aq78, .int 44), (Aq79, .int 45), (Aq80, .int 46), (Aq81, .int 47), (Aq82, .int 48), (.tup [Aq22], .int 49), (.tup [Aq40], .int 50), (.tup [Aq43], .int 51), (Aq90, .int 52), (Aq91, .int 53), (Aq99, .int 54), (.tup [Aq0, Aq5], .int 55), (.tup [Aq2, Aq8], .int 56), (Aq109, .int 57), (Aq110, .int 58), (.tup [Aq11, Aq15], .int 59), (.tup [Aq12, Aq28], .int 60), (Aq111, .int 61), (.tup [Aq13, Aq8], .int 62), (Aq112, .int 63), (Aq113, .int 64), (.tup [Aq22, Aq28], .int 65), (Aq114, .int 66), (Aq122, .int 67), (Aq123, .int 68), (Aq124, .int 69), (Aq125, .int 70), (Aq126, .int 71), (Aq127, .int 72), (.tup [Aq22, Aq5], .int 73), (Aq128, .int 74), (Aq129, .int 75), (Aq137, .int 76), (Aq138, .int 77), (Aq139, .int 78), (Aq140, .int 79), (Aq141, .int 80), (Aq142, .int 81), (Aq143, .int 82), (Aq144, .int 83), (Aq152, .int 84), (Aq153, .int 85), (Aq154, .int 86), (Aq155, .int 87), (Aq156, .int 88), (Aq162, .int 89)]
def Aq164 : D := .lst [.tup [Aq0], .tup [Aq2], .tup [Aq3, Aq4], Aq7, Aq10, .tup [], .tup [Aq11], .tup [Aq12], .tup [Aq13, Aq14], Aq17, .tup [Aq3], .tup [Aq5], .tup [Aq18, Aq8], Aq21, Aq25, .tup [Aq13, Aq2], Aq26, Aq29, Aq32, .tup [Aq22, Aq12], Aq41, Aq44, .tup [Aq8], .tup [Aq3, Aq20], .tup [Aq5, Aq24], .tup [Aq13], .tup [Aq15], .tup [Aq28], .tup [Aq13, Aq31], .tup [Aq0, Aq22], .tup [Aq2, Aq40], Aq59, Aq61, Aq63, .tup [Aq3, Aq15], .tup [Aq5, Aq28], Aq65, .tup [Aq3, Aq11], .tup [Aq5, Aq12], Aq66, Aq67, Aq75, Aq76, Aq77, Aq78, Aq79, Aq80, Aq81, Aq82, .tup [Aq22], .tup [Aq40], .tup [Aq43], Aq90, Aq91, Aq99, .tup [Aq0, Aq5], .tup [Aq2, Aq8], Aq109, Aq110, .tup [Aq11, Aq15], .tup [Aq12, Aq28], Aq111, .tup [Aq13, Aq8], Aq112, Aq113, .tup [Aq22, Aq28], Aq114, Aq122, Aq123, Aq124, Aq125, Aq126, Aq127, .tup [Aq22, Aq5], Aq128, Aq129, Aq137, Aq138, Aq139, Aq140, Aq141, Aq142, Aq143, Aq144, Aq152, Aq153, Aq154, Aq155, Aq156, Aq162]
def Aq165 : D := .lst [.int 10, .int 55, .int 76, .int 77, .int 89]
def Aq166 : D := .lst [.int 5, .int 5, .int 10, .int 11, .int 22]
def Aq167 : D := .lst [.int 5, .int 5, .int 5, .int 25, .int 26]
def Aq168 : D := .lst [.int 5, .int 5, .int 5, .int 5, .int 49]
def Aq169 : D := .lst [Aq35, Aq36, Aq37, Aq38, Aq47, Aq48, Aq49, Aq50, Aq54, Aq55, Aq56, Aq57, Aq70, Aq71, Aq72, Aq73, Aq85, Aq86, Aq87, Aq88, Aq94, Aq95, Aq96, Aq97, Aq102, Aq103, Aq104, Aq105, Aq107, Aq35, Aq36, Aq37, Aq117, Aq118, Aq119, Aq120, Aq132, Aq133, Aq134, Aq135, Aq147, Aq148, Aq149, Aq150, Aq86, Aq87, Aq159, Aq160, Aq165, Aq166, Aq167, Aq168]
def Aq170 : D := .tup [Aq0, Aq5, Aq28, Aq6]
def Aq171 : D := .tup [Aq13, Aq2, Aq8, Aq31, Aq9]
def Aq172 : D := .dct [(.tup [Aq0], .int 0), (.tup [Aq2], .int 1), (.tup [Aq3, Aq4], .int 2), (Aq7, .int 3), (Aq10, .int 4), (.tup [], .int 5), (.tup [Aq11], .int 6), (.tup [Aq12], .int 7), (.tup [Aq13, Aq14], .int 8), (Aq17, .int 9), (.tup [Aq3], .int 10), (.tup [Aq5], .int 11), (.tup [Aq18, Aq8], .int 12), (Aq21, .int 13), (Aq25, .int 14), (.tup [Aq13, Aq2], .int 15), (Aq26, .int 16), (Aq29, .int 17), (Aq32, .int 18), (.tup [Aq22, Aq12], .int 19), (Aq41, .int 20), (Aq44, .int 21), (.tup [Aq8], .int 22), (.tup [Aq3, Aq20], .int 23), (.tup [Aq5, Aq24], .int 24), (.tup [Aq13], .int 25), (.tup [Aq15], .int 26), (.tup [Aq28], .int 27), (.tup [Aq13, Aq31], .int 28), (.tup [Aq0, Aq22], .int 29), (.tup [Aq2, Aq40], .int 30), (Aq59, .int 31), (Aq61, .int 32), (Aq63, .int 33), (.tup [Aq3, Aq15], .int 34), (.tup [Aq5, Aq28], .int 35), (Aq65, .int 36), (.tup [Aq3, Aq11], .int 37), (.tup [Aq5, Aq12], .int 38), (Aq66, .int 39), (Aq67, .int 40), (Aq75, .int 41), (Aq76, .int 42), (Aq77, .int 43), (Aq78, .int 44), (Aq79, .int 45), (Aq80, .int 46), (Aq81, .int 47), (Aq82, .int 48), (.tup [Aq22], .int 49), (.tup [Aq40], .int 50), (.tup [Aq43], .int 51), (Aq90, .int 52), (Aq91, .int 53), (Aq99, .int 54), (.tup [Aq0, Aq5], .int 55), (.tup [Aq2, Aq8], .int 56), (Aq109, .int 57), (Aq110, .int 58), (.tup [Aq11, Aq15], .int 59), (.tup [Aq12, Aq28], .int 60), (Aq111, .int 61), (.tup [Aq13, Aq8], .int 62), (Aq112, .int 63), (Aq113, .int 64), (.tup [Aq22, Aq28], .int 65), (Aq114, .int 66), (Aq122, .int 67), (Aq123, .int 68), (Aq124, .int 69), (Aq125, .int 70), (Aq126, .int 71), (Aq127, .int 72), (.tup [Aq22, Aq5], .int 73), (Aq128, .int 74), (Aq129, .int 75), (Aq137, .int 76), (Aq138, .int 77), (Aq139, .int 78), (Aq140, .int 79), (Aq141, .int 80), (Aq142, .int 81), (Aq143, .int 82), (Aq144, .int 83), (Aq152, .int 84), (Aq153, .int 85), (Aq154, .int 86), (Aq155, .int 87), (Aq156, .int 88), (Aq162, .int 89), (Aq170, .int 90), (Aq171, .int 91)]
def Aq173 : D := .lst [.tup [Aq0], .tup [Aq2], .tup [Aq3, Aq4], Aq7, Aq10, .tup [], .tup [Aq11], .tup [Aq12], .tup [Aq13, Aq14], Aq17, .tup [Aq3], .tup [Aq5], .tup [Aq18, Aq8], Aq21, Aq25, .tup [Aq13, Aq2], Aq26, Aq29, Aq32, .tup [Aq22, Aq12], Aq41, Aq44, .tup [Aq8], .tup [Aq3, Aq20], .tup [Aq5, Aq24], .tup [Aq13], .tup [Aq15], .tup [Aq28], .tup [Aq13, Aq31], .tup [Aq0, Aq22], .tup [Aq2, Aq40], Aq59, Aq61, Aq63, .tup [Aq3, Aq15], .tup [Aq5, Aq28], Aq65, .tup [Aq3, Aq11], .tup [Aq5, Aq12], Aq66, Aq67, Aq75, Aq76, Aq77, Aq78, Aq79, Aq80, Aq81, Aq82, .tup [Aq22], .tup [Aq40], .tup [Aq43], Aq90, Aq91, Aq99, .tup [Aq0, Aq5], .tup [Aq2, Aq8], Aq109, Aq110, .tup [Aq11, Aq15], .tup [Aq12, Aq28], Aq111, .tup [Aq13, Aq8], Aq112, Aq113, .tup [Aq22, Aq28], Aq114, Aq122, Aq123, Aq124, Aq125, Aq126, Aq127, .tup [Aq22, Aq5], Aq128, Aq129, Aq137, Aq138, Aq139, Aq140, Aq141, Aq142, Aq143, Aq144, Aq152, Aq153, Aq154, Aq155, Aq156, Aq162, Aq170, Aq171]
def Aq174 : D := .lst [.int 0, .int 15, .int 16, .int 90, .int 91]
def Aq175 : D := .lst [Aq35, Aq36, Aq37, Aq38, Aq47, Aq48, Aq49, Aq50, Aq54, Aq55, Aq56, Aq57, Aq70, Aq71, Aq72, Aq73, Aq85, Aq86, Aq87, Aq88, Aq94, Aq95, Aq96, Aq97, Aq102, Aq103, Aq104, Aq105, Aq107, Aq35, Aq36, Aq37, Aq117, Aq118, Aq119, Aq120, Aq132, Aq133, Aq134, Aq135, Aq147, Aq148, Aq149, Aq150, Aq86, Aq87, Aq159, Aq160, Aq165, Aq166, Aq167, Aq168, Aq97, Aq102, Aq107, Aq174]
def Aq176 : D := .tup [Aq11, Aq15, Aq43, Aq16]
def Aq177 : D := .tup [Aq3, Aq60, Aq19, Aq20]
def Aq178 : D := .tup [Aq22, Aq5, Aq62, Aq23, Aq24]
def Aq179 : D := .tup [Aq13, Aq64, Aq2, Aq30, Aq8, Aq31, Aq9]
def Aq180 : D := .dct [(.tup [Aq0], .int 0), (.tup [Aq2], .int 1), (.tup [Aq3, Aq4], .int 2), (Aq7, .int 3), (Aq10, .int 4), (.tup [], .int 5), (.tup [Aq11], .int 6), (.tup [Aq12], .int 7), (.tup [Aq13, Aq14], .int 8), (Aq17, .int 9), (.tup [Aq3], .int 10), (.tup [Aq5], .int 11), (.tup [Aq18, Aq8], .int 12), (Aq21, .int 13), (Aq25, .int 14), (.tup [Aq13, Aq2], .int 15), (Aq26, .int 16), (Aq29, .int 17), (Aq32, .int 18), (.tup [Aq22, Aq12], .int 19), (Aq41, .int 20), (Aq44, .int 21), (.tup [Aq8], .int 22), (.tup [Aq3, Aq20], .int 23), (.tup [Aq5, Aq24], .int 24), (.tup [Aq13], .int 25), (.tup [Aq15], .int 26), (.tup [Aq28], .int 27), (.tup [Aq13, Aq31], .int 28), (.tup [Aq0, Aq22], .int 29), (.tup [Aq2, Aq40], .int 30), (Aq59, .int 31), (Aq61, .int 32), (Aq63, .int 33), (.tup [Aq3, Aq15], .int 34), (.tup [Aq5, Aq28], .int 35), (Aq65, .int 36), (.tup [Aq3, Aq11], .int 37), (.tup [Aq5, Aq12], .int 38), (Aq66, .int 39), (Aq67, .int 40), (Aq75, .int 41), (Aq76, .int 42), (Aq77, .int 43), (Aq78, .int 44), (Aq79, .int 45), (Aq80, .int 46), (Aq81, .int 47), (Aq82, .int 48), (.tup [Aq22], .int 49), (.tup [Aq40], .int 50), (.tup [Aq43], .int 51), (Aq90, .int 52), (Aq91, .int 53), (Aq99, .int 54), (.tup [Aq0, Aq5], .int 55), (.tup [Aq2, Aq8], .int 56), (Aq109, .int 57), (Aq110, .int 58), (.tup [Aq11, Aq15], .int 59), (.tup [Aq12, Aq28], .int 60), (Aq111, .int 61), (.tup [Aq13, Aq8], .int 62), (Aq112, .int 63), (Aq113, .int 64), (.tup [Aq22, Aq28], .int 65), (Aq114, .int 66), (Aq122, .int 67), (Aq123, .int 68), (Aq124, .int 69), (Aq125, .int 70), (Aq126, .int 71), (Aq127, .int 72), (.tup [Aq22, Aq5], .int 73), (Aq128, .int 74), (Aq129, .int 75), (Aq137, .int 76), (Aq138, .int 77), (Aq139, .int 78), (Aq140, .int 79), (Aq141, .int 80), (Aq142, .int 81), (Aq143, .int 82), (Aq144, .int 83), (Aq152, .int 84), (Aq153, .int 85), (Aq154, .int 86), (Aq155, .int 87), (Aq156, .int 88), (Aq162, .int 89), (Aq170, .int 90), (Aq171, .int 91), (Aq176, .int 92), (Aq177, .int 93), (Aq178, .int 94), (Aq179, .int 95)]
def Aq181 : D := .lst [.tup [Aq0], .tup [Aq2], .tup [Aq3, Aq4], Aq7, Aq10, .tup [], .tup [Aq11], .tup [Aq12], .tup [Aq13, Aq14], Aq17, .tup [Aq3], .tup [Aq5], .tup [Aq18, Aq8], Aq21, Aq25, .tup [Aq13, Aq2], Aq26, Aq29, Aq32, .tup [Aq22, Aq12], Aq41, Aq44, .tup [Aq8], .tup [Aq3, Aq20], .tup [Aq5, Aq24], .tup [Aq13], .tup [Aq15], .tup [Aq28], .tup [Aq13, Aq31], .tup [Aq0, Aq22], .tup [Aq2, Aq40], Aq59, Aq61, Aq63, .tup [Aq3, Aq15], .tup [Aq5, Aq28], Aq65, .tup [Aq3, Aq11], .tup [Aq5, Aq12], Aq66, Aq67, Aq75, Aq76, Aq77, Aq78, Aq79, Aq80, Aq81, Aq82, .tup [Aq22], .tup [Aq40], .tup [Aq43], Aq90, Aq91, Aq99, .tup [Aq0, Aq5], .tup [Aq2, Aq8], Aq109, Aq110, .tup [Aq11, Aq15], .tup [Aq12, Aq28], Aq111, .tup [Aq13, Aq8], Aq112, Aq113, .tup [Aq22, Aq28], Aq114, Aq122, Aq123, Aq124, Aq125, Aq126, Aq127, .tup [Aq22, Aq5], Aq128, Aq129, Aq137, Aq138, Aq139, Aq140, Aq141, Aq142, Aq143, Aq144, Aq152, Aq153, Aq154, Aq155, Aq156, Aq162, Aq170, Aq171, Aq176, Aq177, Aq178, Aq179]
def Aq182 : D := .lst [.int 5, .int 6, .int 19, .int 20, .int 92]
def Aq183 : D := .lst [.int 10, .int 11, .int 12, .int 93, .int 94]
def Aq184 : D := .lst [.int 0, .int 15, .int 16, .int 17, .int 95]
def Aq185 : D := .lst [.int 5, .int 0, .int 15, .int 16, .int 90]
def Aq186 : D := .lst [Aq35, Aq36, Aq37, Aq38, Aq47, Aq48, Aq49, Aq50, Aq54, Aq55, Aq56, Aq57, Aq70, Aq71, Aq72, Aq73, Aq85, Aq86, Aq87, Aq88, Aq94, Aq95, Aq96, Aq97, Aq102, Aq103, Aq104, Aq105, Aq107, Aq35, Aq36, Aq37, Aq117, Aq118, Aq119, Aq120, Aq132, Aq133, Aq134, Aq135, Aq147, Aq148, Aq149, Aq150, Aq86, Aq87, Aq159, Aq160, Aq165, Aq166, Aq167, Aq168, Aq97, Aq102, Aq107, Aq174, Aq182, Aq183, Aq184, Aq185]
def Aq187 : D := .tup [Aq3, Aq43, Aq20]
def Aq188 : D := .tup [Aq3, Aq60, Aq15, Aq20]
def Aq189 : D := .tup [Aq5, Aq62, Aq28, Aq24]
def Aq190 : D := .dct [(.tup [Aq0], .int 0), (.tup [Aq2], .int 1), (.tup [Aq3, Aq4], .int 2), (Aq7, .int 3), (Aq10, .int 4), (.tup [], .int 5), (.tup [Aq11], .int 6), (.tup [Aq12], .int 7), (.tup [Aq13, Aq14], .int 8), (Aq17, .int 9), (.tup [Aq3], .int 10), (.tup [Aq5], .int 11), (.tup [Aq18, Aq8], .int 12), (Aq21, .int 13), (Aq25, .int 14), (.tup [Aq13, Aq2], .int 15), (Aq26, .int 16), (Aq29, .int 17), (Aq32, .int 18), (.tup [Aq22, Aq12], .int 19), (Aq41, .int 20), (Aq44, .int 21), (.tup [Aq8], .int 22), (.tup [Aq3, Aq20], .int 23), (.tup [Aq5, Aq24], .int 24), (.tup [Aq13], .int 25), (.tup [Aq15], .int 26), (.tup [Aq28], .int 27), (.tup [Aq13, Aq31], .int 28), (.tup [Aq0, Aq22], .int 29), (.tup [Aq2, Aq40], .int 30), (Aq59, .int 31), (Aq61, .int 32), (Aq63, .int 33), (.tup [Aq3, Aq15], .int 34), (.tup [Aq5, Aq28], .int 35), (Aq65, .int 36), (.tup [Aq3, Aq11], .int 37), (.tup [Aq5, Aq12], .int 38), (Aq66, .int 39), (Aq67, .int 40), (Aq75, .int 41), (Aq76, .int 42), (Aq77, .int 43), (Aq78, .int 44), (Aq79, .int 45), (Aq80, .int 46), (Aq81, .int 47), (Aq82, .int 48), (.tup [Aq22], .int 49), (.tup [Aq40], .int 50), (.tup [Aq43], .int 51), (Aq90, .int 52), (Aq91, .int 53), (Aq99, .int 54), (.tup [Aq0, Aq5], .int 55), (.tup [Aq2, Aq8], .int 56), (Aq109, .int 57), (Aq110, .int 58), (.tup [Aq11, Aq15], .int 59), (.tup [Aq12, Aq28], .int 60), (Aq111, .int 61), (.tup [Aq13, Aq8], .int 62), (Aq112, .int 63), (Aq113, .int 64), (.tup [Aq22, Aq28], .int 65), (Aq114, .int 66), (Aq122, .int 67), (Aq123, .int 68), (Aq124, .int 69), (Aq125, .int 70), (Aq126, .int 71), (Aq127, .int 72), (.tup [Aq22, Aq5], .int 73), (Aq128, .int 74), (Aq129, .int 75), (Aq137, .int 76), (Aq138, .int 77), (Aq139, .int 78), (Aq140, .int 79), (Aq141, .int 80), (Aq142, .int 81), (Aq143, .int 82), (Aq144, .int 83), (Aq152, .int 84), (Aq153, .int 85), (Aq154, .int 86), (Aq155, .int 87), (Aq156, .int 88), (Aq162, .int 89), (Aq170, .int 90), (Aq171, .int 91), (Aq176, .int 92), (Aq177, .int 93), (Aq178, .int 94), (Aq179, .int 95), (.tup [Aq40, Aq8], .int 96), (Aq187, .int 97), (Aq188, .int 98), (Aq189, .int 99)]
def Aq191 : D := .lst [.tup [Aq0], .tup [Aq2], .tup [Aq3, Aq4], Aq7, Aq10, .tup [], .tup [Aq11], .tup [Aq12], .tup [Aq13, Aq14], Aq17, .tup [Aq3], .tup [Aq5], .tup [Aq18, Aq8], Aq21, Aq25, .tup [Aq13, Aq2], Aq26, Aq29, Aq32, .tup [Aq22, Aq12], Aq41, Aq44, .tup [Aq8], .tup [Aq3, Aq20], .tup [Aq5, Aq24], .tup [Aq13], .tup [Aq15], .tup [Aq28], .tup [Aq13, Aq31], .tup [Aq0, Aq22], .tup [Aq2, Aq40], Aq59, Aq61, Aq63, .tup [Aq3, Aq15], .tup [Aq5, Aq28], Aq65, .tup [Aq3, Aq11], .tup [Aq5, Aq12], Aq66, Aq67, Aq75, Aq76, Aq77, Aq78, Aq79, Aq80, Aq81, Aq82, .tup [Aq22], .tup [Aq40], .tup [Aq43], Aq90, Aq91, Aq99, .tup [Aq0, Aq5], .tup [Aq2, Aq8], Aq109, Aq110, .tup [Aq11, Aq15], .tup [Aq12, Aq28], Aq111, .tup [Aq13, Aq8], Aq112, Aq113, .tup [Aq22, Aq28], Aq114, Aq122, Aq123, Aq124, Aq125, Aq126, Aq127, .tup [Aq22, Aq5], Aq128, Aq129, Aq137, Aq138, Aq139, Aq140, Aq141, Aq142, Aq143, Aq144, Aq152, Aq153, Aq154, Aq155, Aq156, Aq162, Aq170, Aq171, Aq176, Aq177, Aq178, Aq179, .tup [Aq40, Aq8], Aq187, Aq188, Aq189]
def Aq192 : D := .lst [.int 5, .int 5, .int 6, .int 19, .int 20]
def Aq193 : D := .lst [.int 5, .int 10, .int 11, .int 12, .int 93]
def Aq194 : D := .lst [.int 5, .int 10, .int 73, .int 96, .int 97]
def Aq195 : D := .lst [.int 10, .int 11, .int 62, .int 98, .int 99]
def Aq196 : D := .lst [Aq35, Aq36, Aq37, Aq38, Aq47, Aq48, Aq49, Aq50, Aq54, Aq55, Aq56, Aq57, Aq70, Aq71, Aq72, Aq73, Aq85, Aq86, Aq87, Aq88, Aq94, Aq95, Aq96, Aq97, Aq102, Aq103, Aq104, Aq105, Aq107, Aq35, Aq36, Aq37, Aq117, Aq118, Aq119, Aq120, Aq132, Aq133, Aq134, Aq135, Aq147, Aq148, Aq149, Aq150, Aq86, Aq87, Aq159, Aq160, Aq165, Aq166, Aq167, Aq168, Aq97, Aq102, Aq107, Aq174, Aq182, Aq183, Aq184, Aq185, Aq192, Aq193, Aq194, Aq195]
def Aq197 : D := .tup [Aq13, Aq64, Aq40, Aq31]
def Aq198 : D := .dct [(.tup [Aq0], .int 0), (.tup [Aq2], .int 1), (.tup [Aq3, Aq4], .int 2), (Aq7, .int 3), (Aq10, .int 4), (.tup [], .int 5), (.tup [Aq11], .int 6), (.tup [Aq12], .int 7), (.tup [Aq13, Aq14], .int 8), (Aq17, .int 9), (.tup [Aq3], .int 10), (.tup [Aq5], .int 11), (.tup [Aq18, Aq8], .int 12), (Aq21, .int 13), (Aq25, .int 14), (.tup [Aq13, Aq2], .int 15), (Aq26, .int 16), (Aq29, .int 17), (Aq32, .int 18), (.tup [Aq22, Aq12], .int 19), (Aq41, .int 20), (Aq44, .int 21), (.tup [Aq8], .int 22), (.tup [Aq3, Aq20], .int 23), (.tup [Aq5, Aq24], .int 24), (.tup [Aq13], .int 25), (.tup [Aq15], .int 26), (.tup [Aq28], .int 27), (.tup [Aq13, Aq31], .int 28), (.tup [Aq0, Aq22], .int 29), (.tup [Aq2, Aq40], .int 30), (Aq59, .int 31), (Aq61, .int 32), (Aq63, .int 33), (.tup [Aq3, Aq15], .int 34), (.tup [Aq5, Aq28], .int 35), (Aq65, .int 36), (.tup [Aq3, Aq11], .int 37), (.tup [Aq5, Aq12], .int 38), (Aq66, .int 39), (Aq67, .int 40), (Aq75, .int 41), (Aq76, .int 42), (Aq77, .int 43), (Aq78, .int 44), (Aq79, .int 45), (Aq80, .int 46), (Aq81, .int 47), (Aq82, .int 48), (.tup [Aq22], .int 49), (.tup [Aq40], .int 50), (.tup [Aq43], .int 51), (Aq90, .int 52), (Aq91, .int 53), (Aq99, .int 54), (.tup [Aq0, Aq5], .int 55), (.tup [Aq2, Aq8], .int 56), (Aq109, .int 57), (Aq110, .int 58), (.tup [Aq11, Aq15], .int 59), (.tup [Aq12, Aq28], .int 60), (Aq111, .int 61), (.tup [Aq13, Aq8], .int 62), (Aq112, .int 63), (Aq113, .int 64), (.tup [Aq22, Aq28], .int 65), (Aq114, .int 66), (Aq122, .int 67), (Aq123, .int 68), (Aq124, .int 69), (Aq125, .int 70), (Aq126, .int 71), (Aq127, .int 72), (.tup [Aq22, Aq5], .int 73), (Aq128, .int 74), (Aq129, .int 75), (Aq137, .int 76), (Aq138, .int 77), (Aq139, .int 78), (Aq140, .int 79), (Aq141, .int 80), (Aq142, .int 81), (Aq143, .int 82), (Aq144, .int 83), (Aq152, .int 84), (Aq153, .int 85), (Aq154, .int 86), (Aq155, .int 87), (Aq156, .int 88), (Aq162, .int 89), (Aq170, .int 90), (Aq171, .int 91), (Aq176, .int 92), (Aq177, .int 93), (Aq178, .int 94), (Aq179, .int 95), (.tup [Aq40, Aq8], .int 96), (Aq187, .int 97), (Aq188, .int 98), (Aq189, .int 99), (Aq197, .int 100)]
def Aq199 : D := .lst [.tup [Aq0], .tup [Aq2], .tup [Aq3, Aq4], Aq7, Aq10, .tup [], .tup [Aq11], .tup [Aq12], .tup [Aq13, Aq14], Aq17, .tup [Aq3], .tup [Aq5], .tup [Aq18, Aq8], Aq21, Aq25, .tup [Aq13, Aq2], Aq26, Aq29, Aq32, .tup [Aq22, Aq12], Aq41, Aq44, .tup [Aq8], .tup [Aq3, Aq20], .tup [Aq5, Aq24], .tup [Aq13], .tup [Aq15], .tup [Aq28], .tup [Aq13, Aq31], .tup [Aq0, Aq22], .tup [Aq2, Aq40], Aq59, Aq61, Aq63, .tup [Aq3, Aq15], .tup [Aq5, Aq28], Aq65, .tup [Aq3, Aq11], .tup [Aq5, Aq12], Aq66, Aq67, Aq75, Aq76, Aq77, Aq78, Aq79, Aq80, Aq81, Aq82, .tup [Aq22], .tup [Aq40], .tup [Aq43], Aq90, Aq91, Aq99, .tup [Aq0, Aq5], .tup [Aq2, Aq8], Aq109, Aq110, .tup [Aq11, Aq15], .tup [Aq12, Aq28], Aq111, .tup [Aq13, Aq8], Aq112, Aq113, .tup [Aq22, Aq28], Aq114, Aq122, Aq123, Aq124, Aq125, Aq126, Aq127, .tup [Aq22, Aq5], Aq128, Aq129, Aq137, Aq138, Aq139, Aq140, Aq141, Aq142, Aq143, Aq144, Aq152, Aq153, Aq154, Aq155, Aq156, Aq162, Aq170, Aq171, Aq176, Aq177, Aq178, Aq179, .tup [Aq40, Aq8], Aq187, Aq188, Aq189, Aq197]
def Aq200 : D := .lst [.int 5, .int 25, .int 26, .int 65, .int 100]
def Aq201 : D := .lst [.int 5, .int 5, .int 10, .int 73, .int 96]
def Aq202 : D := .lst [.int 5, .int 10, .int 11, .int 62, .int 98]
def Aq203 : D := .lst [Aq35, Aq36, Aq37, Aq38, Aq47, Aq48, Aq49, Aq50, Aq54, Aq55, Aq56, Aq57, Aq70, Aq71, Aq72, Aq73, Aq85, Aq86, Aq87, Aq88, Aq94, Aq95, Aq96, Aq97, Aq102, Aq103, Aq104, Aq105, Aq107, Aq35, Aq36, Aq37, Aq117, Aq118, Aq119, Aq120, Aq132, Aq133, Aq134, Aq135, Aq147, Aq148, Aq149, Aq150, Aq86, Aq87, Aq159, Aq160, Aq165, Aq166, Aq167, Aq168, Aq97, Aq102, Aq107, Aq174, Aq182, Aq183, Aq184, Aq185, Aq192, Aq193, Aq194, Aq195, Aq200, Aq201, Aq202, Aq174]
def Aq204 : D := .lst [Aq35, Aq36, Aq37, Aq38, Aq47, Aq48, Aq49, Aq50, Aq54, Aq55, Aq56, Aq57, Aq70, Aq71, Aq72, Aq73, Aq85, Aq86, Aq87, Aq88, Aq94, Aq95, Aq96, Aq97, Aq102, Aq103, Aq104, Aq105, Aq107, Aq35, Aq36, Aq37, Aq117, Aq118, Aq119, Aq120, Aq132, Aq133, Aq134, Aq135, Aq147, Aq148, Aq149, Aq150, Aq86, Aq87, Aq159, Aq160, Aq165, Aq166, Aq167, Aq168, Aq97, Aq102, Aq107, Aq174, Aq182, Aq183, Aq184, Aq185, Aq192, Aq193, Aq194, Aq195, Aq200, Aq201, Aq202, Aq174, Aq182, Aq183, Aq183, Aq184]
def Aq205 : D := .tup [Aq13, Aq8, Aq31]
def Aq206 : D := .tup [Aq13, Aq2, Aq40]
def Aq207 : D := .tup [Aq3, Aq15, Aq4, Aq43]
def Aq208 : D := .tup [Aq22, Aq5, Aq12, Aq62, Aq24]
def Aq209 : D := .dct [(.tup [Aq0], .int 0), (.tup [Aq2], .int 1), (.tup [Aq3, Aq4], .int 2), (Aq7, .int 3), (Aq10, .int 4), (.tup [], .int 5), (.tup [Aq11], .int 6), (.tup [Aq12], .int 7), (.tup [Aq13, Aq14], .int 8), (Aq17, .int 9), (.tup [Aq3], .int 10), (.tup [Aq5], .int 11), (.tup [Aq18, Aq8], .int 12), (Aq21, .int 13), (Aq25, .int 14), (.tup [Aq13, Aq2], .int 15), (Aq26, .int 16), (Aq29, .int 17), (Aq32, .int 18), (.tup [Aq22, Aq12], .int 19), (Aq41, .int 20), (Aq44, .int 21), (.tup [Aq8], .int 22), (.tup [Aq3, Aq20], .int 23), (.tup [Aq5, Aq24], .int 24), (.tup [Aq13], .int 25), (.tup [Aq15], .int 26), (.tup [Aq28], .int 27), (.tup [Aq13, Aq31], .int 28), (.tup [Aq0, Aq22], .int 29), (.tup [Aq2, Aq40], .int 30), (Aq59, .int 31), (Aq61, .int 32), (Aq63, .int 33), (.tup [Aq3, Aq15], .int 34), (.tup [Aq5, Aq28], .int 35), (Aq65, .int 36), (.tup [Aq3, Aq11], .int 37), (.tup [Aq5, Aq12], .int 38), (Aq66, .int 39), (Aq67, .int 40), (Aq75, .int 41), (Aq76, .int 42), (Aq77, .int 43), (Aq78, .int 44), (Aq79, .int 45), (Aq80, .int 46), (Aq81, .int 47), (Aq82, .int 48), (.tup [Aq22], .int 49), (.tup [Aq40], .int 50), (.tup [Aq43], .int 51), (Aq90, .int 52), (Aq91, .int 53), (Aq99, .int 54), (.tup [Aq0, Aq5], .int 55), (.tup [Aq2, Aq8], .int 56), (Aq109, .int 57), (Aq110, .int 58), (.tup [Aq11, Aq15], .int 59), (.tup [Aq12, Aq28], .int 60), (Aq111, .int 61), (.tup [Aq13, Aq8], .int 62), (Aq112, .int 63), (Aq113, .int 64), (.tup [Aq22, Aq28], .int 65), (Aq114, .int 66), (Aq122, .int 67), (Aq123, .int 68), (Aq124, .int 69), (Aq125, .int 70), (Aq126, .int 71), (Aq127, .int 72), (.tup [Aq22, Aq5], .int 73), (Aq128, .int 74), (Aq129, .int 75), (Aq137, .int 76), (Aq138, .int 77), (Aq139, .int 78), (Aq140, .int 79), (Aq141, .int 80), (Aq142, .int 81), (Aq143, .int 82), (Aq144, .int 83), (Aq152, .int 84), (Aq153, .int 85), (Aq154, .int 86), (Aq155, .int 87), (Aq156, .int 88), (Aq162, .int 89), (Aq170, .int 90), (Aq171, .int 91), (Aq176, .int 92), (Aq177, .int 93), (Aq178, .int 94), (Aq179, .int 95), (.tup [Aq40, Aq8], .int 96), (Aq187, .int 97), (Aq188, .int 98), (Aq189, .int 99), (Aq197, .int 100), (Aq205, .int 101), (Aq206, .int 102), (Aq207, .int 103), (Aq208, .int 104)]
def Aq210 : D := .lst [.tup [Aq0], .tup [Aq2], .tup [Aq3, Aq4], Aq7, Aq10, .tup [], .tup [Aq11], .tup [Aq12], .tup [Aq13, Aq14], Aq17, .tup [Aq3], .tup [Aq5], .tup [Aq18, Aq8], Aq21, Aq25, .tup [Aq13, Aq2], Aq26, Aq29, Aq32, .tup [Aq22, Aq12], Aq41, Aq44, .tup [Aq8], .tup [Aq3, Aq20], .tup [Aq5, Aq24], .tup [Aq13], .tup [Aq15], .tup [Aq28], .tup [Aq13, Aq31], .tup [Aq0, Aq22], .tup [Aq2, Aq40], Aq59, Aq61, Aq63, .tup [Aq3, Aq15], .tup [Aq5, Aq28], Aq65, .tup [Aq3, Aq11], .tup [Aq5, Aq12], Aq66, Aq67, Aq75, Aq76, Aq77, Aq78, Aq79, Aq80, Aq81, Aq82, .tup [Aq22], .tup [Aq40], .tup [Aq43], Aq90, Aq91, Aq99, .tup [Aq0, Aq5], .tup [Aq2, Aq8], Aq109, Aq110, .tup [Aq11, Aq15], .tup [Aq12, Aq28], Aq111, .tup [Aq13, Aq8], Aq112, Aq113, .tup [Aq22, Aq28], Aq114, Aq122, Aq123, Aq124, Aq125, Aq126, Aq127, .tup [Aq22, Aq5], Aq128, Aq129, Aq137, Aq138, Aq139, Aq140, Aq141, Aq142, Aq143, Aq144, Aq152, Aq153, Aq154, Aq155, Aq156, Aq162, Aq170, Aq171, Aq176, Aq177, Aq178, Aq179, .tup [Aq40, Aq8], Aq187, Aq188, Aq189, Aq197, Aq205, Aq206, Aq207, Aq208]
def Aq211 : D := .lst [.int 5, .int 25, .int 34, .int 35, .int 101]
def Aq212 : D := .lst [.int 5, .int 5, .int 29, .int 102, .int 103]
def Aq213 : D := .lst [.int 10, .int 11, .int 22, .int 32, .int 104]
def Aq214 : D := .lst [Aq35, Aq36, Aq37, Aq38, Aq47, Aq48, Aq49, Aq50, Aq54, Aq55, Aq56, Aq57, Aq70, Aq71, Aq72, Aq73, Aq85, Aq86, Aq87, Aq88, Aq94, Aq95, Aq96, Aq97, Aq102, Aq103, Aq104, Aq105, Aq107, Aq35, Aq36, Aq37, Aq117, Aq118, Aq119, Aq120, Aq132, Aq133, Aq134, Aq135, Aq147, Aq148, Aq149, Aq150, Aq86, Aq87, Aq159, Aq160, Aq165, Aq166, Aq167, Aq168, Aq97, Aq102, Aq107, Aq174, Aq182, Aq183, Aq184, Aq185, Aq192, Aq193, Aq194, Aq195, Aq200, Aq201, Aq202, Aq174, Aq182, Aq183, Aq183, Aq184, Aq193, Aq211, Aq212, Aq213]
def Aq215 : D := .tup [Aq3, Aq11, Aq15, Aq43, Aq20, Aq16]
def Aq216 : D := .tup [Aq3, Aq60, Aq15, Aq19, Aq20]
def Aq217 : D := .tup [Aq22, Aq5, Aq62, Aq28, Aq23, Aq24]
def Aq218 : D := .tup [Aq13, Aq64, Aq2, Aq40, Aq30, Aq8, Aq31, Aq9]
def Aq219 : D := .dct [(.tup [Aq0], .int 0), (.tup [Aq2], .int 1), (.tup [Aq3, Aq4], .int 2), (Aq7, .int 3), (Aq10, .int 4), (.tup [], .int 5), (.tup [Aq11], .int 6), (.tup [Aq12], .int 7), (.tup [Aq13, Aq14], .int 8), (Aq17, .int 9), (.tup [Aq3], .int 10), (.tup [Aq5], .int 11), (.tup [Aq18, Aq8], .int 12), (Aq21, .int 13), (Aq25, .int 14), (.tup [Aq13, Aq2], .int 15), (Aq26, .int 16), (Aq29, .int 17), (Aq32, .int 18), (.tup [Aq22, Aq12], .int 19), (Aq41, .int 20), (Aq44, .int 21), (.tup [Aq8], .int 22), (.tup [Aq3, Aq20], .int 23), (.tup [Aq5, Aq24], .int 24), (.tup [Aq13], .int 25), (.tup [Aq15], .int 26), (.tup [Aq28], .int 27), (.tup [Aq13, Aq31], .int 28), (.tup [Aq0, Aq22], .int 29), (.tup [Aq2, Aq40], .int 30), (Aq59, .int 31), (Aq61, .int 32), (Aq63, .int 33), (.tup [Aq3, Aq15], .int 34), (.tup [Aq5, Aq28], .int 35), (Aq65, .int 36), (.tup [Aq3, Aq11], .int 37), (.tup [Aq5, Aq12], .int 38), (Aq66, .int 39), (Aq67, .int 40), (Aq75, .int 41), (Aq76, .int 42), (Aq77, .int 43), (Aq78, .int 44), (Aq79, .int 45), (Aq80, .int 46), (Aq81, .int 47), (Aq82, .int 48), (.tup [Aq22], .int 49), (.tup [Aq40], .int 50), (.tup [Aq43], .int 51), (Aq90, .int 52), (Aq91, .int 53), (Aq99, .int 54), (.tup [Aq0, Aq5], .int 55), (.tup [Aq2, Aq8], .int 56), (Aq109, .int 57), (Aq110, .int 58), (.tup [Aq11, Aq15], .int 59), (.tup [Aq12, Aq28], .int 60), (Aq111, .int 61), (.tup [Aq13, Aq8], .int 62), (Aq112, .int 63), (Aq113, .int 64), (.tup [Aq22, Aq28], .int 65), (Aq114, .int 66), (Aq122, .int 67), (Aq123, .int 68), (Aq124, .int 69), (Aq125, .int 70), (Aq126, .int 71), (Aq127, .int 72), (.tup [Aq22, Aq5], .int 73), (Aq128, .int 74), (Aq129, .int 75), (Aq137, .int 76), (Aq138, .int 77), (Aq139, .int 78), (Aq140, .int 79), (Aq141, .int 80), (Aq142, .int 81), (Aq143, .int 82), (Aq144, .int 83), (Aq152, .int 84), (Aq153, .int 85), (Aq154, .int 86), (Aq155, .int 87), (Aq156, .int 88), (Aq162, .int 89), (Aq170, .int 90), (Aq171, .int 91), (Aq176, .int 92), (Aq177, .int 93), (Aq178, .int 94), (Aq179, .int 95), (.tup [Aq40, Aq8], .int 96), (Aq187, .int 97), (Aq188, .int 98), (Aq189, .int 99), (Aq197, .int 100), (Aq205, .int 101), (Aq206, .int 102), (Aq207, .int 103), (Aq208, .int 104), (Aq215, .int 105), (Aq216, .int 106), (Aq217, .int 107), (Aq218, .int 108)]
def Aq220 : D := .lst [.tup [Aq0], .tup [Aq2], .tup [Aq3, Aq4], Aq7, Aq10, .tup [], .tup [Aq11], .tup [Aq12], .tup [Aq13, Aq14], Aq17, .tup [Aq3], .tup [Aq5], .tup [Aq18, Aq8], Aq21, Aq25, .tup [Aq13, Aq2], Aq26, Aq29, Aq32, .tup [Aq22, Aq12], Aq41, Aq44, .tup [Aq8], .tup [Aq3, Aq20], .tup [Aq5, Aq24], .tup [Aq13], .tup [Aq15], .tup [Aq28], .tup [Aq13, Aq31], .tup [Aq0, Aq22], .tup [Aq2, Aq40], Aq59, Aq61, Aq63, .tup [Aq3, Aq15], .tup [Aq5, Aq28], Aq65, .tup [Aq3, Aq11], .tup [Aq5, Aq12], Aq66, Aq67, Aq75, Aq76, Aq77, Aq78, Aq79, Aq80, Aq81, Aq82, .tup [Aq22], .tup [Aq40], .tup [Aq43], Aq90, Aq91, Aq99, .tup [Aq0, Aq5], .tup [Aq2, Aq8], Aq109, Aq110, .tup [Aq11, Aq15], .tup [Aq12, Aq28], Aq111, .tup [Aq13, Aq8], Aq112, Aq113, .tup [Aq22, Aq28], Aq114, Aq122, Aq123, Aq124, Aq125, Aq126, Aq127, .tup [Aq22, Aq5], Aq128, Aq129, Aq137, Aq138, Aq139, Aq140, Aq141, Aq142, Aq143, Aq144, Aq152, Aq153, Aq154, Aq155, Aq156, Aq162, Aq170, Aq171, Aq176, Aq177, Aq178, Aq179, .tup [Aq40, Aq8], Aq187, Aq188, Aq189, Aq197, Aq205, Aq206, Aq207, Aq208, Aq215, Aq216, Aq217, Aq218]
def Aq221 : D := .lst [.int 5, .int 37, .int 46, .int 47, .int 105]
def Aq222 : D := .lst [.int 10, .int 11, .int 41, .int 106, .int 107]
def Aq223 : D := .lst [.int 0, .int 15, .int 16, .int 44, .int 108]
def Aq224 : D := .lst [Aq35, Aq36, Aq37, Aq38, Aq47, Aq48, Aq49, Aq50, Aq54, Aq55, Aq56, Aq57, Aq70, Aq71, Aq72, Aq73, Aq85, Aq86, Aq87, Aq88, Aq94, Aq95, Aq96, Aq97, Aq102, Aq103, Aq104, Aq105, Aq107, Aq35, Aq36, Aq37, Aq117, Aq118, Aq119, Aq120, Aq132, Aq133, Aq134, Aq135, Aq147, Aq148, Aq149, Aq150, Aq86, Aq87, Aq159, Aq160, Aq165, Aq166, Aq167, Aq168, Aq97, Aq102, Aq107, Aq174, Aq182, Aq183, Aq184, Aq185, Aq192, Aq193, Aq194, Aq195, Aq200, Aq201, Aq202, Aq174, Aq182, Aq183, Aq183, Aq184, Aq193, Aq211, Aq212, Aq213, Aq221, Aq222, Aq223, Aq183]
def Aq225 : D := .tup [Aq0, Aq5, Aq62, Aq28, Aq6, Aq24]
def Aq226 : D := .tup [Aq22, Aq12, Aq28]
def Aq227 : D := .tup [Aq13, Aq64, Aq40, Aq14, Aq31]
def Aq228 : D := .tup [Aq13, Aq40, Aq8, Aq31]
def Aq229 : D := .tup [Aq13, Aq2, Aq40, Aq8]
def Aq230 : D := .tup [Aq3, Aq60, Aq15, Aq4, Aq43, Aq20]
def Aq231 : D := .dct [(.tup [Aq0], .int 0), (.tup [Aq2], .int 1), (.tup [Aq3, Aq4], .int 2), (Aq7, .int 3), (Aq10, .int 4), (.tup [], .int 5), (.tup [Aq11], .int 6), (.tup [Aq12], .int 7), (.tup [Aq13, Aq14], .int 8), (Aq17, .int 9), (.tup [Aq3], .int 10), (.tup [Aq5], .int 11), (.tup [Aq18, Aq8], .int 12), (Aq21, .int 13), (Aq25, .int 14), (.tup [Aq13, Aq2], .int 15), (Aq26, .int 16), (Aq29, .int 17), (Aq32, .int 18), (.tup [Aq22, Aq12], .int 19), (Aq41, .int 20), (Aq44, .int 21), (.tup [Aq8], .int 22), (.tup [Aq3, Aq20], .int 23), (.tup [Aq5, Aq24], .int 24), (.tup [Aq13], .int 25), (.tup [Aq15], .int 26), (.tup [Aq28], .int 27), (.tup [Aq13, Aq31], .int 28), (.tup [Aq0, Aq22], .int 29), (.tup [Aq2, Aq40], .int 30), (Aq59, .int 31), (Aq61, .int 32), (Aq63, .int 33), (.tup [Aq3, Aq15], .int 34), (.tup [Aq5, Aq28], .int 35), (Aq65, .int 36), (.tup [Aq3, Aq11], .int 37), (.tup [Aq5, Aq12], .int 38), (Aq66, .int 39), (Aq67, .int 40), (Aq75, .int 41), (Aq76, .int 42), (Aq77, .int 43), (Aq78, .int 44), (Aq79, .int 45), (Aq80, .int 46), (Aq81, .int 47), (Aq82, .int 48), (.tup [Aq22], .int 49), (.tup [Aq40], .int 50), (.tup [Aq43], .int 51), (Aq90, .int 52), (Aq91, .int 53), (Aq99, .int 54), (.tup [Aq0, Aq5], .int 55), (.tup [Aq2, Aq8], .int 56), (Aq109, .int 57), (Aq110, .int 58), (.tup [Aq11, Aq15], .int 59), (.tup [Aq12, Aq28], .int 60), (Aq111, .int 61), (.tup [Aq13, Aq8], .int 62), (Aq112, .int 63), (Aq113, .int 64), (.tup [Aq22, Aq28], .int 65), (Aq114, .int 66), (Aq122, .int 67), (Aq123, .int 68), (Aq124, .int 69), (Aq125, .int 70), (Aq126, .int 71), (Aq127, .int 72), (.tup [Aq22, Aq5], .int 73), (Aq128, .int 74), (Aq129, .int 75), (Aq137, .int 76), (Aq138, .int 77), (Aq139, .int 78), (Aq140, .int 79), (Aq141, .int 80), (Aq142, .int 81), (Aq143, .int 82), (Aq144, .int 83), (Aq152, .int 84), (Aq153, .int 85), (Aq154, .int 86), (Aq155, .int 87), (Aq156, .int 88), (Aq162, .int 89), (Aq170, .int 90), (Aq171, .int 91), (Aq176, .int 92), (Aq177, .int 93), (Aq178, .int 94), (Aq179, .int 95), (.tup [Aq40, Aq8], .int 96), (Aq187, .int 97), (Aq188, .int 98), (Aq189, .int 99), (Aq197, .int 100), (Aq205, .int 101), (Aq206, .int 102), (Aq207, .int 103), (Aq208, .int 104), (Aq215, .int 105), (Aq216, .int 106), (Aq217, .int 107), (Aq218, .int 108), (Aq225, .int 109), (Aq226, .int 110), (Aq227, .int 111), (Aq228, .int 112), (Aq229, .int 113), (Aq230, .int 114)]
def Aq232 : D := .lst [.tup [Aq0], .tup [Aq2], .tup [Aq3, Aq4], Aq7, Aq10, .tup [], .tup [Aq11], .tup [Aq12], .tup [Aq13, Aq14], Aq17, .tup [Aq3], .tup [Aq5], .tup [Aq18, Aq8], Aq21, Aq25, .tup [Aq13, Aq2], Aq26, Aq29, Aq32, .tup [Aq22, Aq12], Aq41, Aq44, .tup [Aq8], .tup [Aq3, Aq20], .tup [Aq5, Aq24], .tup [Aq13], .tup [Aq15], .tup [Aq28], .tup [Aq13, Aq31], .tup [Aq0, Aq22], .tup [Aq2, Aq40], Aq59, Aq61, Aq63, .tup [Aq3, Aq15], .tup [Aq5, Aq28], Aq65, .tup [Aq3, Aq11], .tup [Aq5, Aq12], Aq66, Aq67, Aq75, Aq76, Aq77, Aq78, Aq79, Aq80, Aq81, Aq82, .tup [Aq22], .tup [Aq40], .tup [Aq43], Aq90, Aq91, Aq99, .tup [Aq0, Aq5], .tup [Aq2, Aq8], Aq109, Aq110, .tup [Aq11, Aq15], .tup [Aq12, Aq28], Aq111, .tup [Aq13, Aq8], Aq112, Aq113, .tup [Aq22, Aq28], Aq114, Aq122, Aq123, Aq124, Aq125, Aq126, Aq127, .tup [Aq22, Aq5], Aq128, Aq129, Aq137, Aq138, Aq139, Aq140, Aq141, Aq142, Aq143, Aq144, Aq152, Aq153, Aq154, Aq155, Aq156, Aq162, Aq170, Aq171, Aq176, Aq177, Aq178, Aq179, .tup [Aq40, Aq8], Aq187, Aq188, Aq189, Aq197, Aq205, Aq206, Aq207, Aq208, Aq215, Aq216, Aq217, Aq218, Aq225, Aq226, Aq227, Aq228, Aq229, Aq230]
def Aq233 : D := .lst [.int 10, .int 55, .int 76, .int 77, .int 109]
def Aq234 : D := .lst [.int 5, .int 25, .int 59, .int 110, .int 111]
def Aq235 : D := .lst [.int 5, .int 25, .int 34, .int 82, .int 112]
def Aq236 : D := .lst [.int 5, .int 10, .int 67, .int 113, .int 114]
def Aq237 : D := .lst [Aq35, Aq36, Aq37, Aq38, Aq47, Aq48, Aq49, Aq50, Aq54, Aq55, Aq56, Aq57, Aq70, Aq71, Aq72, Aq73, Aq85, Aq86, Aq87, Aq88, Aq94, Aq95, Aq96, Aq97, Aq102, Aq103, Aq104, Aq105, Aq107, Aq35, Aq36, Aq37, Aq117, Aq118, Aq119, Aq120, Aq132, Aq133, Aq134, Aq135, Aq147, Aq148, Aq149, Aq150, Aq86, Aq87, Aq159, Aq160, Aq165, Aq166, Aq167, Aq168, Aq97, Aq102, Aq107, Aq174, Aq182, Aq183, Aq184, Aq185, Aq192, Aq193, Aq194, Aq195, Aq200, Aq201, Aq202, Aq174, Aq182, Aq183, Aq183, Aq184, Aq193, Aq211, Aq212, Aq213, Aq221, Aq222, Aq223, Aq183, Aq233, Aq234, Aq235, Aq236]
def Aq238 : D := .tup [Aq3, Aq15, Aq4, Aq20]
def Aq239 : D := .tup [Aq0, Aq5, Aq28, Aq6, Aq24]
def Aq240 : D := .tup [Aq13, Aq40, Aq14, Aq31]
def Aq241 : D := .tup [Aq3, Aq60, Aq19, Aq43, Aq20]
def Aq242 : D := .tup [Aq3, Aq15, Aq4, Aq43, Aq20]
def Aq243 : D := .dct [(.tup [Aq0], .int 0), (.tup [Aq2], .int 1), (.tup [Aq3, Aq4], .int 2), (Aq7, .int 3), (Aq10, .int 4), (.tup [], .int 5), (.tup [Aq11], .int 6), (.tup [Aq12], .int 7), (.tup [Aq13, Aq14], .int 8), (Aq17, .int 9), (.tup [Aq3], .int 10), (.tup [Aq5], .int 11), (.tup [Aq18, Aq8], .int 12), (Aq21, .int 13), (Aq25, .int 14), (.tup [Aq13, Aq2], .int 15), (Aq26, .int 16), (Aq29, .int 17), (Aq32, .int 18), (.tup [Aq22, Aq12], .int 19), (Aq41, .int 20), (Aq44, .int 21), (.tup [Aq8], .int 22), (.tup [Aq3, Aq20], .int 23), (.tup [Aq5, Aq24], .int 24), (.tup [Aq13], .int 25), (.tup [Aq15], .int 26), (.tup [Aq28], .int 27), (.tup [Aq13, Aq31], .int 28), (.tup [Aq0, Aq22], .int 29), (.tup [Aq2, Aq40], .int 30), (Aq59, .int 31), (Aq61, .int 32), (Aq63, .int 33), (.tup [Aq3, Aq15], .int 34), (.tup [Aq5, Aq28], .int 35), (Aq65, .int 36), (.tup [Aq3, Aq11], .int 37), (.tup [Aq5, Aq12], .int 38), (Aq66, .int 39), (Aq67, .int 40), (Aq75, .int 41), (Aq76, .int 42), (Aq77, .int 43), (Aq78, .int 44), (Aq79, .int 45), (Aq80, .int 46), (Aq81, .int 47), (Aq82, .int 48), (.tup [Aq22], .int 49), (.tup [Aq40], .int 50), (.tup [Aq43], .int 51), (Aq90, .int 52), (Aq91, .int 53), (Aq99, .int 54), (.tup [Aq0, Aq5], .int 55), (.tup [Aq2, Aq8], .int 56), (Aq109, .int 57), (Aq110, .int 58), (.tup [Aq11, Aq15], .int 59), (.tup [Aq12, Aq28], .int 60), (Aq111, .int 61), (.tup [Aq13, Aq8], .int 62), (Aq112, .int 63), (Aq113, .int 64), (.tup [Aq22, Aq28], .int 65), (Aq114, .int 66), (Aq122, .int 67), (Aq123, .int 68), (Aq124, .int 69), (Aq125, .int 70), (Aq126, .int 71), (Aq127, .int 72), (.tup [Aq22, Aq5], .int 73), (Aq128, .int 74), (Aq129, .int 75), (Aq137, .int 76), (Aq138, .int 77), (Aq139, .int 78), (Aq140, .int 79), (Aq141, .int 80), (Aq142, .int 81), (Aq143, .int 82), (Aq144, .int 83), (Aq152, .int 84), (Aq153, .int 85), (Aq154, .int 86), (Aq155, .int 87), (Aq156, .int 88), (Aq162, .int 89), (Aq170, .int 90), (Aq171, .int 91), (Aq176, .int 92), (Aq177, .int 93), (Aq178, .int 94), (Aq179, .int 95), (.tup [Aq40, Aq8], .int 96), (Aq187, .int 97), (Aq188, .int 98), (Aq189, .int 99), (Aq197, .int 100), (Aq205, .int 101), (Aq206, .int 102), (Aq207, .int 103), (Aq208, .int 104), (Aq215, .int 105), (Aq216, .int 106), (Aq217, .int 107), (Aq218, .int 108), (Aq225, .int 109), (Aq226, .int 110), (Aq227, .int 111), (Aq228, .int 112), (Aq229, .int 113), (Aq230, .int 114), (Aq238, .int 115), (Aq239, .int 116), (Aq240, .int 117), (Aq241, .int 118), (Aq242, .int 119)]
def Aq244 : D := .lst [.tup [Aq0], .tup [Aq2], .tup [Aq3, Aq4], Aq7, Aq10, .tup [], .tup [Aq11], .tup [Aq12], .tup [Aq13, Aq14], Aq17, .tup [Aq3], .tup [Aq5], .tup [Aq18, Aq8], Aq21, Aq25, .tup [Aq13, Aq2], Aq26, Aq29, Aq32, .tup [Aq22, Aq12], Aq41, Aq44, .tup [Aq8], .tup [Aq3, Aq20], .tup [Aq5, Aq24], .tup [Aq13], .tup [Aq15], .tup [Aq28], .tup [Aq13, Aq31], .tup [Aq0, Aq22], .tup [Aq2, Aq40], Aq59, Aq61, Aq63, .tup [Aq3, Aq15], .tup [Aq5, Aq28], Aq65, .tup [Aq3, Aq11], .tup [Aq5, Aq12], Aq66, Aq67, Aq75, Aq76, Aq77, Aq78, Aq79, Aq80, Aq81, Aq82, .tup [Aq22], .tup [Aq40], .tup [Aq43], Aq90, Aq91, Aq99, .tup [Aq0, Aq5], .tup [Aq2, Aq8], Aq109, Aq110, .tup [Aq11, Aq15], .tup [Aq12, Aq28], Aq111, .tup [Aq13, Aq8], Aq112, Aq113, .tup [Aq22, Aq28], Aq114, Aq122, Aq123, Aq124, Aq125, Aq126, Aq127, .tup [Aq22, Aq5], Aq128, Aq129, Aq137, Aq138, Aq139, Aq140, Aq141, Aq142, Aq143, Aq144, Aq152, Aq153, Aq154, Aq155, Aq156, Aq162, Aq170, Aq171, Aq176, Aq177, Aq178, Aq179, .tup [Aq40, Aq8], Aq187, Aq188, Aq189, Aq197, Aq205, Aq206, Aq207, Aq208, Aq215, Aq216, Aq217, Aq218, Aq225, Aq226, Aq227, Aq228, Aq229, Aq230, Aq238, Aq239, Aq240, Aq241, Aq242]
def Aq245 : D := .lst [.int 10, .int 55, .int 76, .int 115, .int 116]
def Aq246 : D := .lst [.int 5, .int 25, .int 59, .int 110, .int 117]
def Aq247 : D := .lst [.int 5, .int 10, .int 73, .int 74, .int 118]
def Aq248 : D := .lst [.int 5, .int 10, .int 67, .int 113, .int 119]
def Aq249 : D := .lst [Aq35, Aq36, Aq37, Aq38, Aq47, Aq48, Aq49, Aq50, Aq54, Aq55, Aq56, Aq57, Aq70, Aq71, Aq72, Aq73, Aq85, Aq86, Aq87, Aq88, Aq94, Aq95, Aq96, Aq97, Aq102, Aq103, Aq104, Aq105, Aq107, Aq35, Aq36, Aq37, Aq117, Aq118, Aq119, Aq120, Aq132, Aq133, Aq134, Aq135, Aq147, Aq148, Aq149, Aq150, Aq86, Aq87, Aq159, Aq160, Aq165, Aq166, Aq167, Aq168, Aq97, Aq102, Aq107, Aq174, Aq182, Aq183, Aq184, Aq185, Aq192, Aq193, Aq194, Aq195, Aq200, Aq201, Aq202, Aq174, Aq182, Aq183, Aq183, Aq184, Aq193, Aq211, Aq212, Aq213, Aq221, Aq222, Aq223, Aq183, Aq233, Aq234, Aq235, Aq236, Aq245, Aq246, Aq247, Aq248]
def Aq250 : D := .tup [Aq22, Aq5, Aq12, Aq62, Aq28, Aq24]
def Aq251 : D := .dct [(.tup [Aq0], .int 0), (.tup [Aq2], .int 1), (.tup [Aq3, Aq4], .int 2), (Aq7, .int 3), (Aq10, .int 4), (.tup [], .int 5), (.tup [Aq11], .int 6), (.tup [Aq12], .int 7), (.tup [Aq13, Aq14], .int 8), (Aq17, .int 9), (.tup [Aq3], .int 10), (.tup [Aq5], .int 11), (.tup [Aq18, Aq8], .int 12), (Aq21, .int 13), (Aq25, .int 14), (.tup [Aq13, Aq2], .int 15), (Aq26, .int 16), (Aq29, .int 17), (Aq32, .int 18), (.tup [Aq22, Aq12], .int 19), (Aq41, .int 20), (Aq44, .int 21), (.tup [Aq8], .int 22), (.tup [Aq3, Aq20], .int 23), (.tup [Aq5, Aq24], .int 24), (.tup [Aq13], .int 25), (.tup [Aq15], .int 26), (.tup [Aq28], .int 27), (.tup [Aq13, Aq31], .int 28), (.tup [Aq0, Aq22], .int 29), (.tup [Aq2, Aq40], .int 30), (Aq59, .int 31), (Aq61, .int 32), (Aq63, .int 33), (.tup [Aq3, Aq15], .int 34), (.tup [Aq5, Aq28], .int 35), (Aq65, .int 36), (.tup [Aq3, Aq11], .int 37), (.tup [Aq5, Aq12], .int 38), (Aq66, .int 39), (Aq67, .int 40), (Aq75, .int 41), (Aq76, .int 42), (Aq77, .int 43), (Aq78, .int 44), (Aq79, .int 45), (Aq80, .int 46), (Aq81, .int 47), (Aq82, .int 48), (.tup [Aq22], .int 49), (.tup [Aq40], .int 50), (.tup [Aq43], .int 51), (Aq90, .int 52), (Aq91, .int 53), (Aq99, .int 54), (.tup [Aq0, Aq5], .int 55), (.tup [Aq2, Aq8], .int 56), (Aq109, .int 57), (Aq110, .int 58), (.tup [Aq11, Aq15], .int 59), (.tup [Aq12, Aq28], .int 60), (Aq111, .int 61), (.tup [Aq13, Aq8], .int 62), (Aq112, .int 63), (Aq113, .int 64), (.tup [Aq22, Aq28], .int 65), (Aq114, .int 66), (Aq122, .int 67), (Aq123, .int 68), (Aq124, .int 69), (Aq125, .int 70), (Aq126, .int 71), (Aq127, .int 72), (.tup [Aq22, Aq5], .int 73), (Aq128, .int 74), (Aq129, .int 75), (Aq137, .int 76), (Aq138, .int 77), (Aq139, .int 78), (Aq140, .int 79), (Aq141, .int 80), (Aq142, .int 81), (Aq143, .int 82), (Aq144, .int 83), (Aq152, .int 84), (Aq153, .int 85), (Aq154, .int 86), (Aq155, .int 87), (Aq156, .int 88), (Aq162, .int 89), (Aq170, .int 90), (Aq171, .int 91), (Aq176, .int 92), (Aq177, .int 93), (Aq178, .int 94), (Aq179, .int 95), (.tup [Aq40, Aq8], .int 96), (Aq187, .int 97), (Aq188, .int 98), (Aq189, .int 99), (Aq197, .int 100), (Aq205, .int 101), (Aq206, .int 102), (Aq207, .int 103), (Aq208, .int 104), (Aq215, .int 105), (Aq216, .int 106), (Aq217, .int 107), (Aq218, .int 108), (Aq225, .int 109), (Aq226, .int 110), (Aq227, .int 111), (Aq228, .int 112), (Aq229, .int 113), (Aq230, .int 114), (Aq238, .int 115), (Aq239, .int 116), (Aq240, .int 117), (Aq241, .int 118), (Aq242, .int 119), (Aq250, .int 120)]
def Aq252 : D := .lst [.tup [Aq0], .tup [Aq2], .tup [Aq3, Aq4], Aq7, Aq10, .tup [], .tup [Aq11], .tup [Aq12], .tup [Aq13, Aq14], Aq17, .tup [Aq3], .tup [Aq5], .tup [Aq18, Aq8], Aq21, Aq25, .tup [Aq13, Aq2], Aq26, Aq29, Aq32, .tup [Aq22, Aq12], Aq41, Aq44, .tup [Aq8], .tup [Aq3, Aq20], .tup [Aq5, Aq24], .tup [Aq13], .tup [Aq15], .tup [Aq28], .tup [Aq13, Aq31], .tup [Aq0, Aq22], .tup [Aq2, Aq40], Aq59, Aq61, Aq63, .tup [Aq3, Aq15], .tup [Aq5, Aq28], Aq65, .tup [Aq3, Aq11], .tup [Aq5, Aq12], Aq66, Aq67, Aq75, Aq76, Aq77, Aq78, Aq79, Aq80, Aq81, Aq82, .tup [Aq22], .tup [Aq40], .tup [Aq43], Aq90, Aq91, Aq99, .tup [Aq0, Aq5], .tup [Aq2, Aq8], Aq109, Aq110, .tup [Aq11, Aq15], .tup [Aq12, Aq28], Aq111, .tup [Aq13, Aq8], Aq112, Aq113, .tup [Aq22, Aq28], Aq114, Aq122, Aq123, Aq124, Aq125, Aq126, Aq127, .tup [Aq22, Aq5], Aq128, Aq129, Aq137, Aq138, Aq139, Aq140, Aq141, Aq142, Aq143, Aq144, Aq152, Aq153, Aq154, Aq155, Aq156, Aq162, Aq170, Aq171, Aq176, Aq177, Aq178, Aq179, .tup [Aq40, Aq8], Aq187, Aq188, Aq189, Aq197, Aq205, Aq206, Aq207, Aq208, Aq215, Aq216, Aq217, Aq218, Aq225, Aq226, Aq227, Aq228, Aq229, Aq230, Aq238, Aq239, Aq240, Aq241, Aq242, Aq250]
def Aq253 : D := .lst [.int 10, .int 11, .int 62, .int 80, .int 120]
def Aq254 : D := .lst [Aq35, Aq36, Aq37, Aq38, Aq47, Aq48, Aq49, Aq50, Aq54, Aq55, Aq56, Aq57, Aq70, Aq71, Aq72, Aq73, Aq85, Aq86, Aq87, Aq88, Aq94, Aq95, Aq96, Aq97, Aq102, Aq103, Aq104, Aq105, Aq107, Aq35, Aq36, Aq37, Aq117, Aq118, Aq119, Aq120, Aq132, Aq133, Aq134, Aq135, Aq147, Aq148, Aq149, Aq150, Aq86, Aq87, Aq159, Aq160, Aq165, Aq166, Aq167, Aq168, Aq97, Aq102, Aq107, Aq174, Aq182, Aq183, Aq184, Aq185, Aq192, Aq193, Aq194, Aq195, Aq200, Aq201, Aq202, Aq174, Aq182, Aq183, Aq183, Aq184, Aq193, Aq211, Aq212, Aq213, Aq221, Aq222, Aq223, Aq183, Aq233, Aq234, Aq235, Aq236, Aq245, Aq246, Aq247, Aq248, Aq253, Aq223, Aq86, Aq87]
def Aq255 : D := .lst [Aq35, Aq36, Aq37, Aq38, Aq47, Aq48, Aq49, Aq50, Aq54, Aq55, Aq56, Aq57, Aq70, Aq71, Aq72, Aq73, Aq85, Aq86, Aq87, Aq88, Aq94, Aq95, Aq96, Aq97, Aq102, Aq103, Aq104, Aq105, Aq107, Aq35, Aq36, Aq37, Aq117, Aq118, Aq119, Aq120, Aq132, Aq133, Aq134, Aq135, Aq147, Aq148, Aq149, Aq150, Aq86, Aq87, Aq159, Aq160, Aq165, Aq166, Aq167, Aq168, Aq97, Aq102, Aq107, Aq174, Aq182, Aq183, Aq184, Aq185, Aq192, Aq193, Aq194, Aq195, Aq200, Aq201, Aq202, Aq174, Aq182, Aq183, Aq183, Aq184, Aq193, Aq211, Aq212, Aq213, Aq221, Aq222, Aq223, Aq183, Aq233, Aq234, Aq235, Aq236, Aq245, Aq246, Aq247, Aq248, Aq253, Aq223, Aq86, Aq87, Aq95, Aq71, Aq72, Aq87]
def Aq256 : D := .tup [Aq22, Aq5, Aq62, Aq24]
def Aq257 : D := .dct [(.tup [Aq0], .int 0), (.tup [Aq2], .int 1), (.tup [Aq3, Aq4], .int 2), (Aq7, .int 3), (Aq10, .int 4), (.tup [], .int 5), (.tup [Aq11], .int 6), (.tup [Aq12], .int 7), (.tup [Aq13, Aq14], .int 8), (Aq17, .int 9), (.tup [Aq3], .int 10), (.tup [Aq5], .int 11), (.tup [Aq18, Aq8], .int 12), (Aq21, .int 13), (Aq25, .int 14), (.tup [Aq13, Aq2], .int 15), (Aq26, .int 16), (Aq29, .int 17), (Aq32, .int 18), (.tup [Aq22, Aq12], .int 19), (Aq41, .int 20), (Aq44, .int 21), (.tup [Aq8], .int 22), (.tup [Aq3, Aq20], .int 23), (.tup [Aq5, Aq24], .int 24), (.tup [Aq13], .int 25), (.tup [Aq15], .int 26), (.tup [Aq28], .int 27), (.tup [Aq13, Aq31], .int 28), (.tup [Aq0, Aq22], .int 29), (.tup [Aq2, Aq40], .int 30), (Aq59, .int 31), (Aq61, .int 32), (Aq63, .int 33), (.tup [Aq3, Aq15], .int 34), (.tup [Aq5, Aq28], .int 35), (Aq65, .int 36), (.tup [Aq3, Aq11], .int 37), (.tup [Aq5, Aq12], .int 38), (Aq66, .int 39), (Aq67, .int 40), (Aq75, .int 41), (Aq76, .int 42), (Aq77, .int 43), (Aq78, .int 44), (Aq79, .int 45), (Aq80, .int 46), (Aq81, .int 47), (Aq82, .int 48), (.tup [Aq22], .int 49), (.tup [Aq40], .int 50), (.tup [Aq43], .int 51), (Aq90, .int 52), (Aq91, .int 53), (Aq99, .int 54), (.tup [Aq0, Aq5], .int 55), (.tup [Aq2, Aq8], .int 56), (Aq109, .int 57), (Aq110, .int 58), (.tup [Aq11, Aq15], .int 59), (.tup [Aq12, Aq28], .int 60), (Aq111, .int 61), (.tup [Aq13, Aq8], .int 62), (Aq112, .int 63), (Aq113, .int 64), (.tup [Aq22, Aq28], .int 65), (Aq114, .int 66), (Aq122, .int 67), (Aq123, .int 68), (Aq124, .int 69), (Aq125, .int 70), (Aq126, .int 71), (Aq127, .int 72), (.tup [Aq22, Aq5], .int 73), (Aq128, .int 74), (Aq129, .int 75), (Aq137, .int 76), (Aq138, .int 77), (Aq139, .int 78), (Aq140, .int 79), (Aq141, .int 80), (Aq142, .int 81), (Aq143, .int 82), (Aq144, .int 83), (Aq152, .int 84), (Aq153, .int 85), (Aq154, .int 86), (Aq155, .int 87), (Aq156, .int 88), (Aq162, .int 89), (Aq170, .int 90), (Aq171, .int 91), (Aq176, .int 92), (Aq177, .int 93), (Aq178, .int 94), (Aq179, .int 95), (.tup [Aq40, Aq8], .int 96), (Aq187, .int 97), (Aq188, .int 98), (Aq189, .int 99), (Aq197, .int 100), (Aq205, .int 101), (Aq206, .int 102), (Aq207, .int 103), (Aq208, .int 104), (Aq215, .int 105), (Aq216, .int 106), (Aq217, .int 107), (Aq218, .int 108), (Aq225, .int 109), (Aq226, .int 110), (Aq227, .int 111), (Aq228, .int 112), (Aq229, .int 113), (Aq230, .int 114), (Aq238, .int 115), (Aq239, .int 116), (Aq240, .int 117), (Aq241, .int 118), (Aq242, .int 119), (Aq250, .int 120), (.tup [Aq13, Aq40], .int 121), (.tup [Aq15, Aq43], .int 122), (Aq256, .int 123)]
def Aq258 : D := .lst [.tup [Aq0], .tup [Aq2], .tup [Aq3, Aq4], Aq7, Aq10, .tup [], .tup [Aq11], .tup [Aq12], .tup [Aq13, Aq14], Aq17, .tup [Aq3], .tup [Aq5], .tup [Aq18, Aq8], Aq21, Aq25, .tup [Aq13, Aq2], Aq26, Aq29, Aq32, .tup [Aq22, Aq12], Aq41, Aq44, .tup [Aq8], .tup [Aq3, Aq20], .tup [Aq5, Aq24], .tup [Aq13], .tup [Aq15], .tup [Aq28], .tup [Aq13, Aq31], .tup [Aq0, Aq22], .tup [Aq2, Aq40], Aq59, Aq61, Aq63, .tup [Aq3, Aq15], .tup [Aq5, Aq28], Aq65, .tup [Aq3, Aq11], .tup [Aq5, Aq12], Aq66, Aq67, Aq75, Aq76, Aq77, Aq78, Aq79, Aq80, Aq81, Aq82, .tup [Aq22], .tup [Aq40], .tup [Aq43], Aq90, Aq91, Aq99, .tup [Aq0, Aq5], .tup [Aq2, Aq8], Aq109, Aq110, .tup [Aq11, Aq15], .tup [Aq12, Aq28], Aq111, .tup [Aq13, Aq8], Aq112, Aq113, .tup [Aq22, Aq28], Aq114, Aq122, Aq123, Aq124, Aq125, Aq126, Aq127, .tup [Aq22, Aq5], Aq128, Aq129, Aq137, Aq138, Aq139, Aq140, Aq141, Aq142, Aq143, Aq144, Aq152, Aq153, Aq154, Aq155, Aq156, Aq162, Aq170, Aq171, Aq176, Aq177, Aq178, Aq179, .tup [Aq40, Aq8], Aq187, Aq188, Aq189, Aq197, Aq205, Aq206, Aq207, Aq208, Aq215, Aq216, Aq217, Aq218, Aq225, Aq226, Aq227, Aq228, Aq229, Aq230, Aq238, Aq239, Aq240, Aq241, Aq242, Aq250, .tup [Aq13, Aq40], .tup [Aq15, Aq43], Aq256]
def Aq259 : D := .lst [.int 5, .int 5, .int 49, .int 121, .int 122]
def Aq260 : D := .lst [.int 10, .int 11, .int 22, .int 52, .int 123]
def Aq261 : D := .lst [Aq35, Aq36, Aq37, Aq38, Aq47, Aq48, Aq49, Aq50, Aq54, Aq55, Aq56, Aq57, Aq70, Aq71, Aq72, Aq73, Aq85, Aq86, Aq87, Aq88, Aq94, Aq95, Aq96, Aq97, Aq102, Aq103, Aq104, Aq105, Aq107, Aq35, Aq36, Aq37, Aq117, Aq118, Aq119, Aq120, Aq132, Aq133, Aq134, Aq135, Aq147, Aq148, Aq149, Aq150, Aq86, Aq87, Aq159, Aq160, Aq165, Aq166, Aq167, Aq168, Aq97, Aq102, Aq107, Aq174, Aq182, Aq183, Aq184, Aq185, Aq192, Aq193, Aq194, Aq195, Aq200, Aq201, Aq202, Aq174, Aq182, Aq183, Aq183, Aq184, Aq193, Aq211, Aq212, Aq213, Aq221, Aq222, Aq223, Aq183, Aq233, Aq234, Aq235, Aq236, Aq245, Aq246, Aq247, Aq248, Aq253, Aq223, Aq86, Aq87, Aq95, Aq71, Aq72, Aq87, Aq259, Aq260, Aq195, Aq200]
def Aq262 : D := .tup [Aq3, Aq60, Aq43, Aq20]
def Aq263 : D := .dct [(.tup [Aq0], .int 0), (.tup [Aq2], .int 1), (.tup [Aq3, Aq4], .int 2), (Aq7, .int 3), (Aq10, .int 4), (.tup [], .int 5), (.tup [Aq11], .int 6), (.tup [Aq12], .int 7), (.tup [Aq13, Aq14], .int 8), (Aq17, .int 9), (.tup [Aq3], .int 10), (.tup [Aq5], .int 11), (.tup [Aq18, Aq8], .int 12), (Aq21, .int 13), (Aq25, .int 14), (.tup [Aq13, Aq2], .int 15), (Aq26, .int 16), (Aq29, .int 17), (Aq32, .int 18), (.tup [Aq22, Aq12], .int 19), (Aq41, .int 20), (Aq44, .int 21), (.tup [Aq8], .int 22), (.tup [Aq3, Aq20], .int 23), (.tup [Aq5, Aq24], .int 24), (.tup [Aq13], .int 25), (.tup [Aq15], .int 26), (.tup [Aq28], .int 27), (.tup [Aq13, Aq31], .int 28), (.tup [Aq0, Aq22], .int 29), (.tup [Aq2, Aq40], .int 30), (Aq59, .int 31), (Aq61, .int 32), (Aq63, .int 33), (.tup [Aq3, Aq15], .int 34), (.tup [Aq5, Aq28], .int 35), (Aq65, .int 36), (.tup [Aq3, Aq11], .int 37), (.tup [Aq5, Aq12], .int 38), (Aq66, .int 39), (Aq67, .int 40), (Aq75, .int 41), (Aq76, .int 42), (Aq77, .int 43), (Aq78, .int 44), (Aq79, .int 45), (Aq80, .int 46), (Aq81, .int 47), (Aq82, .int 48), (.tup [Aq22], .int 49), (.tup [Aq40], .int 50), (.tup [Aq43], .int 51), (Aq90, .int 52), (Aq91, .int 53), (Aq99, .int 54), (.tup [Aq0, Aq5], .int 55), (.tup [Aq2, Aq8], .int 56), (Aq109, .int 57), (Aq110, .int 58), (.tup [Aq11, Aq15], .int 59), (.tup [Aq12, Aq28], .int 60), (Aq111, .int 61), (.tup [Aq13, Aq8], .int 62), (Aq112, .int 63), (Aq113, .int 64), (.tup [Aq22, Aq28], .int 65), (Aq114, .int 66), (Aq122, .int 67), (Aq123, .int 68), (Aq124, .int 69), (Aq125, .int 70), (Aq126, .int 71), (Aq127, .int 72), (.tup [Aq22, Aq5], .int 73), (Aq128, .int 74), (Aq129, .int 75), (Aq137, .int 76), (Aq138, .int 77), (Aq139, .int 78), (Aq140, .int 79), (Aq141, .int 80), (Aq142, .int 81), (Aq143, .int 82), (Aq144, .int 83), (Aq152, .int 84), (Aq153, .int 85), (Aq154, .int 86), (Aq155, .int 87), (Aq156, .int 88), (Aq162, .int 89), (Aq170, .int 90), (Aq171, .int 91), (Aq176, .int 92), (Aq177, .int 93), (Aq178, .int 94), (Aq179, .int 95), (.tup [Aq40, Aq8], .int 96), (Aq187, .int 97), (Aq188, .int 98), (Aq189, .int 99), (Aq197, .int 100), (Aq205, .int 101), (Aq206, .int 102), (Aq207, .int 103), (Aq208, .int 104), (Aq215, .int 105), (Aq216, .int 106), (Aq217, .int 107), (Aq218, .int 108), (Aq225, .int 109), (Aq226, .int 110), (Aq227, .int 111), (Aq228, .int 112), (Aq229, .int 113), (Aq230, .int 114), (Aq238, .int 115), (Aq239, .int 116), (Aq240, .int 117), (Aq241, .int 118), (Aq242, .int 119), (Aq250, .int 120), (.tup [Aq13, Aq40], .int 121), (.tup [Aq15, Aq43], .int 122), (Aq256, .int 123), (Aq262, .int 124)]
def Aq264 : D := .lst [.tup [Aq0], .tup [Aq2], .tup [Aq3, Aq4], Aq7, Aq10, .tup [], .tup [Aq11], .tup [Aq12], .tup [Aq13, Aq14], Aq17, .tup [Aq3], .tup [Aq5], .tup [Aq18, Aq8], Aq21, Aq25, .tup [Aq13, Aq2], Aq26, Aq29, Aq32, .tup [Aq22, Aq12], Aq41, Aq44, .tup [Aq8], .tup [Aq3, Aq20], .tup [Aq5, Aq24], .tup [Aq13], .tup [Aq15], .tup [Aq28], .tup [Aq13, Aq31], .tup [Aq0, Aq22], .tup [Aq2, Aq40], Aq59, Aq61, Aq63, .tup [Aq3, Aq15], .tup [Aq5, Aq28], Aq65, .tup [Aq3, Aq11], .tup [Aq5, Aq12], Aq66, Aq67, Aq75, Aq76, Aq77, Aq78, Aq79, Aq80, Aq81, Aq82, .tup [Aq22], .tup [Aq40], .tup [Aq43], Aq90, Aq91, Aq99, .tup [Aq0, Aq5], .tup [Aq2, Aq8], Aq109, Aq110, .tup [Aq11, Aq15], .tup [Aq12, Aq28], Aq111, .tup [Aq13, Aq8], Aq112, Aq113, .tup [Aq22, Aq28], Aq114, Aq122, Aq123, Aq124, Aq125, Aq126, Aq127, .tup [Aq22, Aq5], Aq128, Aq129, Aq137, Aq138, Aq139, Aq140, Aq141, Aq142, Aq143, Aq144, Aq152, Aq153, Aq154, Aq155, Aq156, Aq162, Aq170, Aq171, Aq176, Aq177, Aq178, Aq179, .tup [Aq40, Aq8], Aq187, Aq188, Aq189, Aq197, Aq205, Aq206, Aq207, Aq208, Aq215, Aq216, Aq217, Aq218, Aq225, Aq226, Aq227, Aq228, Aq229, Aq230, Aq238, Aq239, Aq240, Aq241, Aq242, Aq250, .tup [Aq13, Aq40], .tup [Aq15, Aq43], Aq256, Aq262]
def Aq265 : D := .lst [.int 5, .int 10, .int 73, .int 96, .int 124]
def Aq266 : D := .lst [Aq35, Aq36, Aq37, Aq38, Aq47, Aq48, Aq49, Aq50, Aq54, Aq55, Aq56, Aq57, Aq70, Aq71, Aq72, Aq73, Aq85, Aq86, Aq87, Aq88, Aq94, Aq95, Aq96, Aq97, Aq102, Aq103, Aq104, Aq105, Aq107, Aq35, Aq36, Aq37, Aq117, Aq118, Aq119, Aq120, Aq132, Aq133, Aq134, Aq135, Aq147, Aq148, Aq149, Aq150, Aq86, Aq87, Aq159, Aq160, Aq165, Aq166, Aq167, Aq168, Aq97, Aq102, Aq107, Aq174, Aq182, Aq183, Aq184, Aq185, Aq192, Aq193, Aq194, Aq195, Aq200, Aq201, Aq202, Aq174, Aq182, Aq183, Aq183, Aq184, Aq193, Aq211, Aq212, Aq213, Aq221, Aq222, Aq223, Aq183, Aq233, Aq234, Aq235, Aq236, Aq245, Aq246, Aq247, Aq248, Aq253, Aq223, Aq86, Aq87, Aq95, Aq71, Aq72, Aq87, Aq259, Aq260, Aq195, Aq200, Aq202, Aq265, Aq73, Aq85]
def Aq267 : D := .tup [Aq13, Aq64, Aq8, Aq14, Aq31]
def Aq268 : D := .dct [(.tup [Aq0], .int 0), (.tup [Aq2], .int 1), (.tup [Aq3, Aq4], .int 2), (Aq7, .int 3), (Aq10, .int 4), (.tup [], .int 5), (.tup [Aq11], .int 6), (.tup [Aq12], .int 7), (.tup [Aq13, Aq14], .int 8), (Aq17, .int 9), (.tup [Aq3], .int 10), (.tup [Aq5], .int 11), (.tup [Aq18, Aq8], .int 12), (Aq21, .int 13), (Aq25, .int 14), (.tup [Aq13, Aq2], .int 15), (Aq26, .int 16), (Aq29, .int 17), (Aq32, .int 18), (.tup [Aq22, Aq12], .int 19), (Aq41, .int 20), (Aq44, .int 21), (.tup [Aq8], .int 22), (.tup [Aq3, Aq20], .int 23), (.tup [Aq5, Aq24], .int 24), (.tup [Aq13], .int 25), (.tup [Aq15], .int 26), (.tup [Aq28], .int 27), (.tup [Aq13, Aq31], .int 28), (.tup [Aq0, Aq22], .int 29), (.tup [Aq2, Aq40], .int 30), (Aq59, .int 31), (Aq61, .int 32), (Aq63, .int 33), (.tup [Aq3, Aq15], .int 34), (.tup [Aq5, Aq28], .int 35), (Aq65, .int 36), (.tup [Aq3, Aq11], .int 37), (.tup [Aq5, Aq12], .int 38), (Aq66, .int 39), (Aq67, .int 40), (Aq75, .int 41), (Aq76, .int 42), (Aq77, .int 43), (Aq78, .int 44), (Aq79, .int 45), (Aq80, .int 46), (Aq81, .int 47), (Aq82, .int 48), (.tup [Aq22], .int 49), (.tup [Aq40], .int 50), (.tup [Aq43], .int 51), (Aq90, .int 52), (Aq91, .int 53), (Aq99, .int 54), (.tup [Aq0, Aq5], .int 55), (.tup [Aq2, Aq8], .int 56), (Aq109, .int 57), (Aq110, .int 58), (.tup [Aq11, Aq15], .int 59), (.tup [Aq12, Aq28], .int 60), (Aq111, .int 61), (.tup [Aq13, Aq8], .int 62), (Aq112, .int 63), (Aq113, .int 64), (.tup [Aq22, Aq28], .int 65), (Aq114, .int 66), (Aq122, .int 67), (Aq123, .int 68), (Aq124, .int 69), (Aq125, .int 70), (Aq126, .int 71), (Aq127, .int 72), (.tup [Aq22, Aq5], .int 73), (Aq128, .int 74), (Aq129, .int 75), (Aq137, .int 76), (Aq138, .int 77), (Aq139, .int 78), (Aq140, .int 79), (Aq141, .int 80), (Aq142, .int 81), (Aq143, .int 82), (Aq144, .int 83), (Aq152, .int 84), (Aq153, .int 85), (Aq154, .int 86), (Aq155, .int 87), (Aq156, .int 88), (Aq162, .int 89), (Aq170, .int 90), (Aq171, .int 91), (Aq176, .int 92), (Aq177, .int 93), (Aq178, .int 94), (Aq179, .int 95), (.tup [Aq40, Aq8], .int 96), (Aq187, .int 97), (Aq188, .int 98), (Aq189, .int 99), (Aq197, .int 100), (Aq205, .int 101), (Aq206, .int 102), (Aq207, .int 103), (Aq208, .int 104), (Aq215, .int 105), (Aq216, .int 106), (Aq217, .int 107), (Aq218, .int 108), (Aq225, .int 109), (Aq226, .int 110), (Aq227, .int 111), (Aq228, .int 112), (Aq229, .int 113), (Aq230, .int 114), (Aq238, .int 115), (Aq239, .int 116), (Aq240, .int 117), (Aq241, .int 118), (Aq242, .int 119), (Aq250, .int 120), (.tup [Aq13, Aq40], .int 121), (.tup [Aq15, Aq43], .int 122), (Aq256, .int 123), (Aq262, .int 124), (Aq267, .int 125)]
def Aq269 : D := .lst [.tup [Aq0], .tup [Aq2], .tup [Aq3, Aq4], Aq7, Aq10, .tup [], .tup [Aq11], .tup [Aq12], .tup [Aq13, Aq14], Aq17, .tup [Aq3], .tup [Aq5], .tup [Aq18, Aq8], Aq21, Aq25, .tup [Aq13, Aq2], Aq26, Aq29, Aq32, .tup [Aq22, Aq12], Aq41, Aq44, .tup [Aq8], .tup [Aq3, Aq20], .tup [Aq5, Aq24], .tup [Aq13], .tup [Aq15], .tup [Aq28], .tup [Aq13, Aq31], .tup [Aq0, Aq22], .tup [Aq2, Aq40], Aq59, Aq61, Aq63, .tup [Aq3, Aq15], .tup [Aq5, Aq28], Aq65, .tup [Aq3, Aq11], .tup [Aq5, Aq12], Aq66, Aq67, Aq75, Aq76, Aq77, Aq78, Aq79, Aq80, Aq81, Aq82, .tup [Aq22], .tup [Aq40], .tup [Aq43], Aq90, Aq91, Aq99, .tup [Aq0, Aq5], .tup [Aq2, Aq8], Aq109, Aq110, .tup [Aq11, Aq15], .tup [Aq12, Aq28], Aq111, .tup [Aq13, Aq8], Aq112, Aq113, .tup [Aq22, Aq28], Aq114, Aq122, Aq123, Aq124, Aq125, Aq126, Aq127, .tup [Aq22, Aq5], Aq128, Aq129, Aq137, Aq138, Aq139, Aq140, Aq141, Aq142, Aq143, Aq144, Aq152, Aq153, Aq154, Aq155, Aq156, Aq162, Aq170, Aq171, Aq176, Aq177, Aq178, Aq179, .tup [Aq40, Aq8], Aq187, Aq188, Aq189, Aq197, Aq205, Aq206, Aq207, Aq208, Aq215, Aq216, Aq217, Aq218, Aq225, Aq226, Aq227, Aq228, Aq229, Aq230, Aq238, Aq239, Aq240, Aq241, Aq242, Aq250, .tup [Aq13, Aq40], .tup [Aq15, Aq43], Aq256, Aq262, Aq267]
def Aq270 : D := .lst [.int 5, .int 25, .int 84, .int 85, .int 125]
def Aq271 : D := .lst [Aq35, Aq36, Aq37, Aq38, Aq47, Aq48, Aq49, Aq50, Aq54, Aq55, Aq56, Aq57, Aq70, Aq71, Aq72, Aq73, Aq85, Aq86, Aq87, Aq88, Aq94, Aq95, Aq96, Aq97, Aq102, Aq103, Aq104, Aq105, Aq107, Aq35, Aq36, Aq37, Aq117, Aq118, Aq119, Aq120, Aq132, Aq133, Aq134, Aq135, Aq147, Aq148, Aq149, Aq150, Aq86, Aq87, Aq159, Aq160, Aq165, Aq166, Aq167, Aq168, Aq97, Aq102, Aq107, Aq174, Aq182, Aq183, Aq184, Aq185, Aq192, Aq193, Aq194, Aq195, Aq200, Aq201, Aq202, Aq174, Aq182, Aq183, Aq183, Aq184, Aq193, Aq211, Aq212, Aq213, Aq221, Aq222, Aq223, Aq183, Aq233, Aq234, Aq235, Aq236, Aq245, Aq246, Aq247, Aq248, Aq253, Aq223, Aq86, Aq87, Aq95, Aq71, Aq72, Aq87, Aq259, Aq260, Aq195, Aq200, Aq202, Aq265, Aq73, Aq85, Aq270, Aq165, Aq149, Aq150]
def Aq272 : D := .lst [.int 5, .int 5, .int 37, .int 46, .int 47]
def Aq273 : D := .lst [.int 5, .int 10, .int 11, .int 41, .int 106]
def Aq274 : D := .lst [Aq35, Aq36, Aq37, Aq38, Aq47, Aq48, Aq49, Aq50, Aq54, Aq55, Aq56, Aq57, Aq70, Aq71, Aq72, Aq73, Aq85, Aq86, Aq87, Aq88, Aq94, Aq95, Aq96, Aq97, Aq102, Aq103, Aq104, Aq105, Aq107, Aq35, Aq36, Aq37, Aq117, Aq118, Aq119, Aq120, Aq132, Aq133, Aq134, Aq135, Aq147, Aq148, Aq149, Aq150, Aq86, Aq87, Aq159, Aq160, Aq165, Aq166, Aq167, Aq168, Aq97, Aq102, Aq107, Aq174, Aq182, Aq183, Aq184, Aq185, Aq192, Aq193, Aq194, Aq195, Aq200, Aq201, Aq202, Aq174, Aq182, Aq183, Aq183, Aq184, Aq193, Aq211, Aq212, Aq213, Aq221, Aq222, Aq223, Aq183, Aq233, Aq234, Aq235, Aq236, Aq245, Aq246, Aq247, Aq248, Aq253, Aq223, Aq86, Aq87, Aq95, Aq71, Aq72, Aq87, Aq259, Aq260, Aq195, Aq200, Aq202, Aq265, Aq73, Aq85, Aq270, Aq165, Aq149, Aq150, Aq87, Aq223, Aq272, Aq273]
def Aq275 : D := .tup [Aq13, Aq40, Aq8]
def Aq276 : D := .tup [Aq3, Aq60, Aq15, Aq43, Aq20]
def Aq277 : D := .dct [(.tup [Aq0], .int 0), (.tup [Aq2], .int 1), (.tup [Aq3, Aq4], .int 2), (Aq7, .int 3), (Aq10, .int 4), (.tup [], .int 5), (.tup [Aq11], .int 6), (.tup [Aq12], .int 7), (.tup [Aq13, Aq14], .int 8), (Aq17, .int 9), (.tup [Aq3], .int 10), (.tup [Aq5], .int 11), (.tup [Aq18, Aq8], .int 12), (Aq21, .int 13), (Aq25, .int 14), (.tup [Aq13, Aq2], .int 15), (Aq26, .int 16), (Aq29, .int 17), (Aq32, .int 18), (.tup [Aq22, Aq12], .int 19), (Aq41, .int 20), (Aq44, .int 21), (.tup [Aq8], .int 22), (.tup [Aq3, Aq20], .int 23), (.tup [Aq5, Aq24], .int 24), (.tup [Aq13], .int 25), (.tup [Aq15], .int 26), (.tup [Aq28], .int 27), (.tup [Aq13, Aq31], .int 28), (.tup [Aq0, Aq22], .int 29), (.tup [Aq2, Aq40], .int 30), (Aq59, .int 31), (Aq61, .int 32), (Aq63, .int 33), (.tup [Aq3, Aq15], .int 34), (.tup [Aq5, Aq28], .int 35), (Aq65, .int 36), (.tup [Aq3, Aq11], .int 37), (.tup [Aq5, Aq12], .int 38), (Aq66, .int 39), (Aq67, .int 40), (Aq75, .int 41), (Aq76, .int 42), (Aq77, .int 43), (Aq78, .int 44), (Aq79, .int 45), (Aq80, .int 46), (Aq81, .int 47), (Aq82, .int 48), (.tup [Aq22], .int 49), (.tup [Aq40], .int 50), (.tup [Aq43], .int 51), (Aq90, .int 52), (Aq91, .int 53), (Aq99, .int 54), (.tup [Aq0, Aq5], .int 55), (.tup [Aq2, Aq8], .int 56), (Aq109, .int 57), (Aq110, .int 58), (.tup [Aq11, Aq15], .int 59), (.tup [Aq12, Aq28], .int 60), (Aq111, .int 61), (.tup [Aq13, Aq8], .int 62), (Aq112, .int 63), (Aq113, .int 64), (.tup [Aq22, Aq28], .int 65), (Aq114, .int 66), (Aq122, .int 67), (Aq123, .int 68), (Aq124, .int 69), (Aq125, .int 70), (Aq126, .int 71), (Aq127, .int 72), (.tup [Aq22, Aq5], .int 73), (Aq128, .int 74), (Aq129, .int 75), (Aq137, .int 76), (Aq138, .int 77), (Aq139, .int 78), (Aq140, .int 79), (Aq141, .int 80), (Aq142, .int 81), (Aq143, .int 82), (Aq144, .int 83), (Aq152, .int 84), (Aq153, .int 85), (Aq154, .int 86), (Aq155, .int 87), (Aq156, .int 88), (Aq162, .int 89), (Aq170, .int 90), (Aq171, .int 91), (Aq176, .int 92), (Aq177, .int 93), (Aq178, .int 94), (Aq179, .int 95), (.tup [Aq40, Aq8], .int 96), (Aq187, .int 97), (Aq188, .int 98), (Aq189, .int 99), (Aq197, .int 100), (Aq205, .int 101), (Aq206, .int 102), (Aq207, .int 103), (Aq208, .int 104), (Aq215, .int 105), (Aq216, .int 106), (Aq217, .int 107), (Aq218, .int 108), (Aq225, .int 109), (Aq226, .int 110), (Aq227, .int 111), (Aq228, .int 112), (Aq229, .int 113), (Aq230, .int 114), (Aq238, .int 115), (Aq239, .int 116), (Aq240, .int 117), (Aq241, .int 118), (Aq242, .int 119), (Aq250, .int 120), (.tup [Aq13, Aq40], .int 121), (.tup [Aq15, Aq43], .int 122), (Aq256, .int 123), (Aq262, .int 124), (Aq267, .int 125), (Aq275, .int 126), (Aq276, .int 127)]
def Aq278 : D := .lst [.tup [Aq0], .tup [Aq2], .tup [Aq3, Aq4], Aq7, Aq10, .tup [], .tup [Aq11], .tup [Aq12], .tup [Aq13, Aq14], Aq17, .tup [Aq3], .tup [Aq5], .tup [Aq18, Aq8], Aq21, Aq25, .tup [Aq13, Aq2], Aq26, Aq29, Aq32, .tup [Aq22, Aq12], Aq41, Aq44, .tup [Aq8], .tup [Aq3, Aq20], .tup [Aq5, Aq24], .tup [Aq13], .tup [Aq15], .tup [Aq28], .tup [Aq13, Aq31], .tup [Aq0, Aq22], .tup [Aq2, Aq40], Aq59, Aq61, Aq63, .tup [Aq3, Aq15], .tup [Aq5, Aq28], Aq65, .tup [Aq3, Aq11], .tup [Aq5, Aq12], Aq66, Aq67, Aq75, Aq76, Aq77, Aq78, Aq79, Aq80, Aq81, Aq82, .tup [Aq22], .tup [Aq40], .tup [Aq43], Aq90, Aq91, Aq99, .tup [Aq0, Aq5], .tup [Aq2, Aq8], Aq109, Aq110, .tup [Aq11, Aq15], .tup [Aq12, Aq28], Aq111, .tup [Aq13, Aq8], Aq112, Aq113, .tup [Aq22, Aq28], Aq114, Aq122, Aq123, Aq124, Aq125, Aq126, Aq127, .tup [Aq22, Aq5], Aq128, Aq129, Aq137, Aq138, Aq139, Aq140, Aq141, Aq142, Aq143, Aq144, Aq152, Aq153, Aq154, Aq155, Aq156, Aq162, Aq170, Aq171, Aq176, Aq177, Aq178, Aq179, .tup [Aq40, Aq8], Aq187, Aq188, Aq189, Aq197, Aq205, Aq206, Aq207, Aq208, Aq215, Aq216, Aq217, Aq218, Aq225, Aq226, Aq227, Aq228, Aq229, Aq230, Aq238, Aq239, Aq240, Aq241, Aq242, Aq250, .tup [Aq13, Aq40], .tup [Aq15, Aq43], Aq256, Aq262, Aq267, Aq275, Aq276]
def Aq279 : D := .lst [.int 5, .int 10, .int 73, .int 126, .int 127]
def Aq280 : D := .lst [Aq35, Aq36, Aq37, Aq38, Aq47, Aq48, Aq49, Aq50, Aq54, Aq55, Aq56, Aq57, Aq70, Aq71, Aq72, Aq73, Aq85, Aq86, Aq87, Aq88, Aq94, Aq95, Aq96, Aq97, Aq102, Aq103, Aq104, Aq105, Aq107, Aq35, Aq36, Aq37, Aq117, Aq118, Aq119, Aq120, Aq132, Aq133, Aq134, Aq135, Aq147, Aq148, Aq149, Aq150, Aq86, Aq87, Aq159, Aq160, Aq165, Aq166, Aq167, Aq168, Aq97, Aq102, Aq107, Aq174, Aq182, Aq183, Aq184, Aq185, Aq192, Aq193, Aq194, Aq195, Aq200, Aq201, Aq202, Aq174, Aq182, Aq183, Aq183, Aq184, Aq193, Aq211, Aq212, Aq213, Aq221, Aq222, Aq223, Aq183, Aq233, Aq234, Aq235, Aq236, Aq245, Aq246, Aq247, Aq248, Aq253, Aq223, Aq86, Aq87, Aq95, Aq71, Aq72, Aq87, Aq259, Aq260, Aq195, Aq200, Aq202, Aq265, Aq73, Aq85, Aq270, Aq165, Aq149, Aq150, Aq87, Aq223, Aq272, Aq273, Aq279, Aq221, Aq222, Aq222]
def Aq281 : D := .lst [Aq35, Aq36, Aq37, Aq38, Aq47, Aq48, Aq49, Aq50, Aq54, Aq55, Aq56, Aq57, Aq70, Aq71, Aq72, Aq73, Aq85, Aq86, Aq87, Aq88, Aq94, Aq95, Aq96, Aq97, Aq102, Aq103, Aq104, Aq105, Aq107, Aq35, Aq36, Aq37, Aq117, Aq118, Aq119, Aq120, Aq132, Aq133, Aq134, Aq135, Aq147, Aq148, Aq149, Aq150, Aq86, Aq87, Aq159, Aq160, Aq165, Aq166, Aq167, Aq168, Aq97, Aq102, Aq107, Aq174, Aq182, Aq183, Aq184, Aq185, Aq192, Aq193, Aq194, Aq195, Aq200, Aq201, Aq202, Aq174, Aq182, Aq183, Aq183, Aq184, Aq193, Aq211, Aq212, Aq213, Aq221, Aq222, Aq223, Aq183, Aq233, Aq234, Aq235, Aq236, Aq245, Aq246, Aq247, Aq248, Aq253, Aq223, Aq86, Aq87, Aq95, Aq71, Aq72, Aq87, Aq259, Aq260, Aq195, Aq200, Aq202, Aq265, Aq73, Aq85, Aq270, Aq165, Aq149, Aq150, Aq87, Aq223, Aq272, Aq273, Aq279, Aq221, Aq222, Aq222, Aq223, Aq273, Aq213, Aq222]
def Aq282 : D := .tup [Aq22, Aq5, Aq12, Aq28]
def Aq283 : D := .tup [Aq13, Aq64, Aq40, Aq8, Aq14, Aq31]
def Aq284 : D := .tup [Aq13, Aq64, Aq8, Aq31]
def Aq285 : D := .dct [(.tup [Aq0], .int 0), (.tup [Aq2], .int 1), (.tup [Aq3, Aq4], .int 2), (Aq7, .int 3), (Aq10, .int 4), (.tup [], .int 5), (.tup [Aq11], .int 6), (.tup [Aq12], .int 7), (.tup [Aq13, Aq14], .int 8), (Aq17, .int 9), (.tup [Aq3], .int 10), (.tup [Aq5], .int 11), (.tup [Aq18, Aq8], .int 12), (Aq21, .int 13), (Aq25, .int 14), (.tup [Aq13, Aq2], .int 15), (Aq26, .int 16), (Aq29, .int 17), (Aq32, .int 18), (.tup [Aq22, Aq12], .int 19), (Aq41, .int 20), (Aq44, .int 21), (.tup [Aq8], .int 22), (.tup [Aq3, Aq20], .int 23), (.tup [Aq5, Aq24], .int 24), (.tup [Aq13], .int 25), (.tup [Aq15], .int 26), (.tup [Aq28], .int 27), (.tup [Aq13, Aq31], .int 28), (.tup [Aq0, Aq22], .int 29), (.tup [Aq2, Aq40], .int 30), (Aq59, .int 31), (Aq61, .int 32), (Aq63, .int 33), (.tup [Aq3, Aq15], .int 34), (.tup [Aq5, Aq28], .int 35), (Aq65, .int 36), (.tup [Aq3, Aq11], .int 37), (.tup [Aq5, Aq12], .int 38), (Aq66, .int 39), (Aq67, .int 40), (Aq75, .int 41), (Aq76, .int 42), (Aq77, .int 43), (Aq78, .int 44), (Aq79, .int 45), (Aq80, .int 46), (Aq81, .int 47), (Aq82, .int 48), (.tup [Aq22], .int 49), (.tup [Aq40], .int 50), (.tup [Aq43], .int 51), (Aq90, .int 52), (Aq91, .int 53), (Aq99, .int 54), (.tup [Aq0, Aq5], .int 55), (.tup [Aq2, Aq8], .int 56), (Aq109, .int 57), (Aq110, .int 58), (.tup [Aq11, Aq15], .int 59), (.tup [Aq12, Aq28], .int 60), (Aq111, .int 61), (.tup [Aq13, Aq8], .int 62), (Aq112, .int 63), (Aq113, .int 64), (.tup [Aq22, Aq28], .int 65), (Aq114, .int 66), (Aq122, .int 67), (Aq123, .int 68), (Aq124, .int 69), (Aq125, .int 70), (Aq126, .int 71), (Aq127, .int 72), (.tup [Aq22, Aq5], .int 73), (Aq128, .int 74), (Aq129, .int 75), (Aq137, .int 76), (Aq138, .int 77), (Aq139, .int 78), (Aq140, .int 79), (Aq141, .int 80), (Aq142, .int 81), (Aq143, .int 82), (Aq144, .int 83), (Aq152, .int 84), (Aq153, .int 85), (Aq154, .int 86), (Aq155, .int 87), (Aq156, .int 88), (Aq162, .int 89), (Aq170, .int 90), (Aq171, .int 91), (Aq176, .int 92), (Aq177, .int 93), (Aq178, .int 94), (Aq179, .int 95), (.tup [Aq40, Aq8], .int 96), (Aq187, .int 97), (Aq188, .int 98), (Aq189, .int 99), (Aq197, .int 100), (Aq205, .int 101), (Aq206, .int 102), (Aq207, .int 103), (Aq208, .int 104), (Aq215, .int 105), (Aq216, .int 106), (Aq217, .int 107), (Aq218, .int 108), (Aq225, .int 109), (Aq226, .int 110), (Aq227, .int 111), (Aq228, .int 112), (Aq229, .int 113), (Aq230, .int 114), (Aq238, .int 115), (Aq239, .int 116), (Aq240, .int 117), (Aq241, .int 118), (Aq242, .int 119), (Aq250, .int 120), (.tup [Aq13, Aq40], .int 121), (.tup [Aq15, Aq43], .int 122), (Aq256, .int 123), (Aq262, .int 124), (Aq267, .int 125), (Aq275, .int 126), (Aq276, .int 127), (Aq282, .int 128), (Aq283, .int 129), (Aq284, .int 130)]
def Aq286 : D := .lst [.tup [Aq0], .tup [Aq2], .tup [Aq3, Aq4], Aq7, Aq10, .tup [], .tup [Aq11], .tup [Aq12], .tup [Aq13, Aq14], Aq17, .tup [Aq3], .tup [Aq5], .tup [Aq18, Aq8], Aq21, Aq25, .tup [Aq13, Aq2], Aq26, Aq29, Aq32, .tup [Aq22, Aq12], Aq41, Aq44, .tup [Aq8], .tup [Aq3, Aq20], .tup [Aq5, Aq24], .tup [Aq13], .tup [Aq15], .tup [Aq28], .tup [Aq13, Aq31], .tup [Aq0, Aq22], .tup [Aq2, Aq40], Aq59, Aq61, Aq63, .tup [Aq3, Aq15], .tup [Aq5, Aq28], Aq65, .tup [Aq3, Aq11], .tup [Aq5, Aq12], Aq66, Aq67, Aq75, Aq76, Aq77, Aq78, Aq79, Aq80, Aq81, Aq82, .tup [Aq22], .tup [Aq40], .tup [Aq43], Aq90, Aq91, Aq99, .tup [Aq0, Aq5], .tup [Aq2, Aq8], Aq109, Aq110, .tup [Aq11, Aq15], .tup [Aq12, Aq28], Aq111, .tup [Aq13, Aq8], Aq112, Aq113, .tup [Aq22, Aq28], Aq114, Aq122, Aq123, Aq124, Aq125, Aq126, Aq127, .tup [Aq22, Aq5], Aq128, Aq129, Aq137, Aq138, Aq139, Aq140, Aq141, Aq142, Aq143, Aq144, Aq152, Aq153, Aq154, Aq155, Aq156, Aq162, Aq170, Aq171, Aq176, Aq177, Aq178, Aq179, .tup [Aq40, Aq8], Aq187, Aq188, Aq189, Aq197, Aq205, Aq206, Aq207, Aq208, Aq215, Aq216, Aq217, Aq218, Aq225, Aq226, Aq227, Aq228, Aq229, Aq230, Aq238, Aq239, Aq240, Aq241, Aq242, Aq250, .tup [Aq13, Aq40], .tup [Aq15, Aq43], Aq256, Aq262, Aq267, Aq275, Aq276, Aq282, Aq283, Aq284]
def Aq287 : D := .lst [.int 5, .int 25, .int 84, .int 128, .int 129]
def Aq288 : D := .lst [.int 5, .int 10, .int 11, .int 62, .int 63]
def Aq289 : D := .lst [.int 5, .int 5, .int 25, .int 26, .int 65]
def Aq290 : D := .lst [.int 5, .int 25, .int 34, .int 35, .int 130]
def Aq291 : D := .lst [Aq35, Aq36, Aq37, Aq38, Aq47, Aq48, Aq49, Aq50, Aq54, Aq55, Aq56, Aq57, Aq70, Aq71, Aq72, Aq73, Aq85, Aq86, Aq87, Aq88, Aq94, Aq95, Aq96, Aq97, Aq102, Aq103, Aq104, Aq105, Aq107, Aq35, Aq36, Aq37, Aq117, Aq118, Aq119, Aq120, Aq132, Aq133, Aq134, Aq135, Aq147, Aq148, Aq149, Aq150, Aq86, Aq87, Aq159, Aq160, Aq165, Aq166, Aq167, Aq168, Aq97, Aq102, Aq107, Aq174, Aq182, Aq183, Aq184, Aq185, Aq192, Aq193, Aq194, Aq195, Aq200, Aq201, Aq202, Aq174, Aq182, Aq183, Aq183, Aq184, Aq193, Aq211, Aq212, Aq213, Aq221, Aq222, Aq223, Aq183, Aq233, Aq234, Aq235, Aq236, Aq245, Aq246, Aq247, Aq248, Aq253, Aq223, Aq86, Aq87, Aq95, Aq71, Aq72, Aq87, Aq259, Aq260, Aq195, Aq200, Aq202, Aq265, Aq73, Aq85, Aq270, Aq165, Aq149, Aq150, Aq87, Aq223, Aq272, Aq273, Aq279, Aq221, Aq222, Aq222, Aq223, Aq273, Aq213, Aq222, Aq287, Aq288, Aq289, Aq290]
def Aq292 : D := .tup [Aq3, Aq15, Aq43, Aq20]
def Aq293 : D := .tup [Aq22, Aq5, Aq62, Aq28, Aq24]
def Aq294 : D := .dct [(.tup [Aq0], .int 0), (.tup [Aq2], .int 1), (.tup [Aq3, Aq4], .int 2), (Aq7, .int 3), (Aq10, .int 4), (.tup [], .int 5), (.tup [Aq11], .int 6), (.tup [Aq12], .int 7), (.tup [Aq13, Aq14], .int 8), (Aq17, .int 9), (.tup [Aq3], .int 10), (.tup [Aq5], .int 11), (.tup [Aq18, Aq8], .int 12), (Aq21, .int 13), (Aq25, .int 14), (.tup [Aq13, Aq2], .int 15), (Aq26, .int 16), (Aq29, .int 17), (Aq32, .int 18), (.tup [Aq22, Aq12], .int 19), (Aq41, .int 20), (Aq44, .int 21), (.tup [Aq8], .int 22), (.tup [Aq3, Aq20], .int 23), (.tup [Aq5, Aq24], .int 24), (.tup [Aq13], .int 25), (.tup [Aq15], .int 26), (.tup [Aq28], .int 27), (.tup [Aq13, Aq31], .int 28), (.tup [Aq0, Aq22], .int 29), (.tup [Aq2, Aq40], .int 30), (Aq59, .int 31), (Aq61, .int 32), (Aq63, .int 33), (.tup [Aq3, Aq15], .int 34), (.tup [Aq5, Aq28], .int 35), (Aq65, .int 36), (.tup [Aq3, Aq11], .int 37), (.tup [Aq5, Aq12], .int 38), (Aq66, .int 39), (Aq67, .int 40), (Aq75, .int 41), (Aq76, .int 42), (Aq77, .int 43), (Aq78, .int 44), (Aq79, .int 45), (Aq80, .int 46), (Aq81, .int 47), (Aq82, .int 48), (.tup [Aq22], .int 49), (.tup [Aq40], .int 50), (.tup [Aq43], .int 51), (Aq90, .int 52), (Aq91, .int 53), (Aq99, .int 54), (.tup [Aq0, Aq5], .int 55), (.tup [Aq2, Aq8], .int 56), (Aq109, .int 57), (Aq110, .int 58), (.tup [Aq11, Aq15], .int 59), (.tup [Aq12, Aq28], .int 60), (Aq111, .int 61), (.tup [Aq13, Aq8], .int 62), (Aq112, .int 63), (Aq113, .int 64), (.tup [Aq22, Aq28], .int 65), (Aq114, .int 66), (Aq122, .int 67), (Aq123, .int 68), (Aq124, .int 69), (Aq125, .int 70), (Aq126, .int 71), (Aq127, .int 72), (.tup [Aq22, Aq5], .int 73), (Aq128, .int 74), (Aq129, .int 75), (Aq137, .int 76), (Aq138, .int 77), (Aq139, .int 78), (Aq140, .int 79), (Aq141, .int 80), (Aq142, .int 81), (Aq143, .int 82), (Aq144, .int 83), (Aq152, .int 84), (Aq153, .int 85), (Aq154, .int 86), (Aq155, .int 87), (Aq156, .int 88), (Aq162, .int 89), (Aq170, .int 90), (Aq171, .int 91), (Aq176, .int 92), (Aq177, .int 93), (Aq178, .int 94), (Aq179, .int 95), (.tup [Aq40, Aq8], .int 96), (Aq187, .int 97), (Aq188, .int 98), (Aq189, .int 99), (Aq197, .int 100), (Aq205, .int 101), (Aq206, .int 102), (Aq207, .int 103), (Aq208, .int 104), (Aq215, .int 105), (Aq216, .int 106), (Aq217, .int 107), (Aq218, .int 108), (Aq225, .int 109), (Aq226, .int 110), (Aq227, .int 111), (Aq228, .int 112), (Aq229, .int 113), (Aq230, .int 114), (Aq238, .int 115), (Aq239, .int 116), (Aq240, .int 117), (Aq241, .int 118), (Aq242, .int 119), (Aq250, .int 120), (.tup [Aq13, Aq40], .int 121), (.tup [Aq15, Aq43], .int 122), (Aq256, .int 123), (Aq262, .int 124), (Aq267, .int 125), (Aq275, .int 126), (Aq276, .int 127), (Aq282, .int 128), (Aq283, .int 129), (Aq284, .int 130), (Aq292, .int 131), (Aq293, .int 132)]
def Aq295 : D := .lst [.tup [Aq0], .tup [Aq2], .tup [Aq3, Aq4], Aq7, Aq10, .tup [], .tup [Aq11], .tup [Aq12], .tup [Aq13, Aq14], Aq17, .tup [Aq3], .tup [Aq5], .tup [Aq18, Aq8], Aq21, Aq25, .tup [Aq13, Aq2], Aq26, Aq29, Aq32, .tup [Aq22, Aq12], Aq41, Aq44, .tup [Aq8], .tup [Aq3, Aq20], .tup [Aq5, Aq24], .tup [Aq13], .tup [Aq15], .tup [Aq28], .tup [Aq13, Aq31], .tup [Aq0, Aq22], .tup [Aq2, Aq40], Aq59, Aq61, Aq63, .tup [Aq3, Aq15], .tup [Aq5, Aq28], Aq65, .tup [Aq3, Aq11], .tup [Aq5, Aq12], Aq66, Aq67, Aq75, Aq76, Aq77, Aq78, Aq79, Aq80, Aq81, Aq82, .tup [Aq22], .tup [Aq40], .tup [Aq43], Aq90, Aq91, Aq99, .tup [Aq0, Aq5], .tup [Aq2, Aq8], Aq109, Aq110, .tup [Aq11, Aq15], .tup [Aq12, Aq28], Aq111, .tup [Aq13, Aq8], Aq112, Aq113, .tup [Aq22, Aq28], Aq114, Aq122, Aq123, Aq124, Aq125, Aq126, Aq127, .tup [Aq22, Aq5], Aq128, Aq129, Aq137, Aq138, Aq139, Aq140, Aq141, Aq142, Aq143, Aq144, Aq152, Aq153, Aq154, Aq155, Aq156, Aq162, Aq170, Aq171, Aq176, Aq177, Aq178, Aq179, .tup [Aq40, Aq8], Aq187, Aq188, Aq189, Aq197, Aq205, Aq206, Aq207, Aq208, Aq215, Aq216, Aq217, Aq218, Aq225, Aq226, Aq227, Aq228, Aq229, Aq230, Aq238, Aq239, Aq240, Aq241, Aq242, Aq250, .tup [Aq13, Aq40], .tup [Aq15, Aq43], Aq256, Aq262, Aq267, Aq275, Aq276, Aq282, Aq283, Aq284, Aq292, Aq293]
def Aq296 : D := .lst [.int 5, .int 10, .int 73, .int 126, .int 131]
def Aq297 : D := .lst [.int 10, .int 11, .int 62, .int 98, .int 132]
def Aq298 : D := .lst [Aq35, Aq36, Aq37, Aq38, Aq47, Aq48, Aq49, Aq50, Aq54, Aq55, Aq56, Aq57, Aq70, Aq71, Aq72, Aq73, Aq85, Aq86, Aq87, Aq88, Aq94, Aq95, Aq96, Aq97, Aq102, Aq103, Aq104, Aq105, Aq107, Aq35, Aq36, Aq37, Aq117, Aq118, Aq119, Aq120, Aq132, Aq133, Aq134, Aq135, Aq147, Aq148, Aq149, Aq150, Aq86, Aq87, Aq159, Aq160, Aq165, Aq166, Aq167, Aq168, Aq97, Aq102, Aq107, Aq174, Aq182, Aq183, Aq184, Aq185, Aq192, Aq193, Aq194, Aq195, Aq200, Aq201, Aq202, Aq174, Aq182, Aq183, Aq183, Aq184, Aq193, Aq211, Aq212, Aq213, Aq221, Aq222, Aq223, Aq183, Aq233, Aq234, Aq235, Aq236, Aq245, Aq246, Aq247, Aq248, Aq253, Aq223, Aq86, Aq87, Aq95, Aq71, Aq72, Aq87, Aq259, Aq260, Aq195, Aq200, Aq202, Aq265, Aq73, Aq85, Aq270, Aq165, Aq149, Aq150, Aq87, Aq223, Aq272, Aq273, Aq279, Aq221, Aq222, Aq222, Aq223, Aq273, Aq213, Aq222, Aq287, Aq288, Aq289, Aq290, Aq260, Aq247, Aq296, Aq297]
def Aq299 : D := .tup [Aq13, Aq40, Aq8, Aq14, Aq31]
def Aq300 : D := .tup [Aq3, Aq60, Aq15, Aq19, Aq43, Aq20]
def Aq301 : D := .dct [(.tup [Aq0], .int 0), (.tup [Aq2], .int 1), (.tup [Aq3, Aq4], .int 2), (Aq7, .int 3), (Aq10, .int 4), (.tup [], .int 5), (.tup [Aq11], .int 6), (.tup [Aq12], .int 7), (.tup [Aq13, Aq14], .int 8), (Aq17, .int 9), (.tup [Aq3], .int 10), (.tup [Aq5], .int 11), (.tup [Aq18, Aq8], .int 12), (Aq21, .int 13), (Aq25, .int 14), (.tup [Aq13, Aq2], .int 15), (Aq26, .int 16), (Aq29, .int 17), (Aq32, .int 18), (.tup [Aq22, Aq12], .int 19), (Aq41, .int 20), (Aq44, .int 21), (.tup [Aq8], .int 22), (.tup [Aq3, Aq20], .int 23), (.tup [Aq5, Aq24], .int 24), (.tup [Aq13], .int 25), (.tup [Aq15], .int 26), (.tup [Aq28], .int 27), (.tup [Aq13, Aq31], .int 28), (.tup [Aq0, Aq22], .int 29), (.tup [Aq2, Aq40], .int 30), (Aq59, .int 31), (Aq61, .int 32), (Aq63, .int 33), (.tup [Aq3, Aq15], .int 34), (.tup [Aq5, Aq28], .int 35), (Aq65, .int 36), (.tup [Aq3, Aq11], .int 37), (.tup [Aq5, Aq12], .int 38), (Aq66, .int 39), (Aq67, .int 40), (Aq75, .int 41), (Aq76, .int 42), (Aq77, .int 43), (Aq78, .int 44), (Aq79, .int 45), (Aq80, .int 46), (Aq81, .int 47), (Aq82, .int 48), (.tup [Aq22], .int 49), (.tup [Aq40], .int 50), (.tup [Aq43], .int 51), (Aq90, .int 52), (Aq91, .int 53), (Aq99, .int 54), (.tup [Aq0, Aq5], .int 55), (.tup [Aq2, Aq8], .int 56), (Aq109, .int 57), (Aq110, .int 58), (.tup [Aq11, Aq15], .int 59), (.tup [Aq12, Aq28], .int 60), (Aq111, .int 61), (.tup [Aq13, Aq8], .int 62), (Aq112, .int 63), (Aq113, .int 64), (.tup [Aq22, Aq28], .int 65), (Aq114, .int 66), (Aq122, .int 67), (Aq123, .int 68), (Aq124, .int 69), (Aq125, .int 70), (Aq126, .int 71), (Aq127, .int 72), (.tup [Aq22, Aq5], .int 73), (Aq128, .int 74), (Aq129, .int 75), (Aq137, .int 76), (Aq138, .int 77), (Aq139, .int 78), (Aq140, .int 79), (Aq141, .int 80), (Aq142, .int 81), (Aq143, .int 82), (Aq144, .int 83), (Aq152, .int 84), (Aq153, .int 85), (Aq154, .int 86), (Aq155, .int 87), (Aq156, .int 88), (Aq162, .int 89), (Aq170, .int 90), (Aq171, .int 91), (Aq176, .int 92), (Aq177, .int 93), (Aq178, .int 94), (Aq179, .int 95), (.tup [Aq40, Aq8], .int 96), (Aq187, .int 97), (Aq188, .int 98), (Aq189, .int 99), (Aq197, .int 100), (Aq205, .int 101), (Aq206, .int 102), (Aq207, .int 103), (Aq208, .int 104), (Aq215, .int 105), (Aq216, .int 106), (Aq217, .int 107), (Aq218, .int 108), (Aq225, .int 109), (Aq226, .int 110), (Aq227, .int 111), (Aq228, .int 112), (Aq229, .int 113), (Aq230, .int 114), (Aq238, .int 115), (Aq239, .int 116), (Aq240, .int 117), (Aq241, .int 118), (Aq242, .int 119), (Aq250, .int 120), (.tup [Aq13, Aq40], .int 121), (.tup [Aq15, Aq43], .int 122), (Aq256, .int 123), (Aq262, .int 124), (Aq267, .int 125), (Aq275, .int 126), (Aq276, .int 127), (Aq282, .int 128), (Aq283, .int 129), (Aq284, .int 130), (Aq292, .int 131), (Aq293, .int 132), (Aq299, .int 133), (Aq300, .int 134)]
def Aq302 : D := .lst [.tup [Aq0], .tup [Aq2], .tup [Aq3, Aq4], Aq7, Aq10, .tup [], .tup [Aq11], .tup [Aq12], .tup [Aq13, Aq14], Aq17, .tup [Aq3], .tup [Aq5], .tup [Aq18, Aq8], Aq21, Aq25, .tup [Aq13, Aq2], Aq26, Aq29, Aq32, .tup [Aq22, Aq12], Aq41, Aq44, .tup [Aq8], .tup [Aq3, Aq20], .tup [Aq5, Aq24], .tup [Aq13], .tup [Aq15], .tup [Aq28], .tup [Aq13, Aq31], .tup [Aq0, Aq22], .tup [Aq2, Aq40], Aq59, Aq61, Aq63, .tup [Aq3, Aq15], .tup [Aq5, Aq28], Aq65, .tup [Aq3, Aq11], .tup [Aq5, Aq12], Aq66, Aq67, Aq75, Aq76, Aq77, Aq78, Aq79, Aq80, Aq81, Aq82, .tup [Aq22], .tup [Aq40], .tup [Aq43], Aq90, Aq91, Aq99, .tup [Aq0, Aq5], .tup [Aq2, Aq8], Aq109, Aq110, .tup [Aq11, Aq15], .tup [Aq12, Aq28], Aq111, .tup [Aq13, Aq8], Aq112, Aq113, .tup [Aq22, Aq28], Aq114, Aq122, Aq123, Aq124, Aq125, Aq126, Aq127, .tup [Aq22, Aq5], Aq128, Aq129, Aq137, Aq138, Aq139, Aq140, Aq141, Aq142, Aq143, Aq144, Aq152, Aq153, Aq154, Aq155, Aq156, Aq162, Aq170, Aq171, Aq176, Aq177, Aq178, Aq179, .tup [Aq40, Aq8], Aq187, Aq188, Aq189, Aq197, Aq205, Aq206, Aq207, Aq208, Aq215, Aq216, Aq217, Aq218, Aq225, Aq226, Aq227, Aq228, Aq229, Aq230, Aq238, Aq239, Aq240, Aq241, Aq242, Aq250, .tup [Aq13, Aq40], .tup [Aq15, Aq43], Aq256, Aq262, Aq267, Aq275, Aq276, Aq282, Aq283, Aq284, Aq292, Aq293, Aq299, Aq300]
def Aq303 : D := .lst [.int 5, .int 25, .int 84, .int 128, .int 133]
def Aq304 : D := .lst [.int 5, .int 10, .int 73, .int 87, .int 134]
def Aq305 : D := .lst [Aq35, Aq36, Aq37, Aq38, Aq47, Aq48, Aq49, Aq50, Aq54, Aq55, Aq56, Aq57, Aq70, Aq71, Aq72, Aq73, Aq85, Aq86, Aq87, Aq88, Aq94, Aq95, Aq96, Aq97, Aq102, Aq103, Aq104, Aq105, Aq107, Aq35, Aq36, Aq37, Aq117, Aq118, Aq119, Aq120, Aq132, Aq133, Aq134, Aq135, Aq147, Aq148, Aq149, Aq150, Aq86, Aq87, Aq159, Aq160, Aq165, Aq166, Aq167, Aq168, Aq97, Aq102, Aq107, Aq174, Aq182, Aq183, Aq184, Aq185, Aq192, Aq193, Aq194, Aq195, Aq200, Aq201, Aq202, Aq174, Aq182, Aq183, Aq183, Aq184, Aq193, Aq211, Aq212, Aq213, Aq221, Aq222, Aq223, Aq183, Aq233, Aq234, Aq235, Aq236, Aq245, Aq246, Aq247, Aq248, Aq253, Aq223, Aq86, Aq87, Aq95, Aq71, Aq72, Aq87, Aq259, Aq260, Aq195, Aq200, Aq202, Aq265, Aq73, Aq85, Aq270, Aq165, Aq149, Aq150, Aq87, Aq223, Aq272, Aq273, Aq279, Aq221, Aq222, Aq222, Aq223, Aq273, Aq213, Aq222, Aq287, Aq288, Aq289, Aq290, Aq260, Aq247, Aq296, Aq297, Aq303, Aq304, Aq265, Aq297]
def Aq306 : D := .tup [Aq13, Aq64, Aq40, Aq8, Aq31]
def Aq307 : D := .dct [(.tup [Aq0], .int 0), (.tup [Aq2], .int 1), (.tup [Aq3, Aq4], .int 2), (Aq7, .int 3), (Aq10, .int 4), (.tup [], .int 5), (.tup [Aq11], .int 6), (.tup [Aq12], .int 7), (.tup [Aq13, Aq14], .int 8), (Aq17, .int 9), (.tup [Aq3], .int 10), (.tup [Aq5], .int 11), (.tup [Aq18, Aq8], .int 12), (Aq21, .int 13), (Aq25, .int 14), (.tup [Aq13, Aq2], .int 15), (Aq26, .int 16), (Aq29, .int 17), (Aq32, .int 18), (.tup [Aq22, Aq12], .int 19), (Aq41, .int 20), (Aq44, .int 21), (.tup [Aq8], .int 22), (.tup [Aq3, Aq20], .int 23), (.tup [Aq5, Aq24], .int 24), (.tup [Aq13], .int 25), (.tup [Aq15], .int 26), (.tup [Aq28], .int 27), (.tup [Aq13, Aq31], .int 28), (.tup [Aq0, Aq22], .int 29), (.tup [Aq2, Aq40], .int 30), (Aq59, .int 31), (Aq61, .int 32), (Aq63, .int 33), (.tup [Aq3, Aq15], .int 34), (.tup [Aq5, Aq28], .int 35), (Aq65, .int 36), (.tup [Aq3, Aq11], .int 37), (.tup [Aq5, Aq12], .int 38), (Aq66, .int 39), (Aq67, .int 40), (Aq75, .int 41), (Aq76, .int 42), (Aq77, .int 43), (Aq78, .int 44), (Aq79, .int 45), (Aq80, .int 46), (Aq81, .int 47), (Aq82, .int 48), (.tup [Aq22], .int 49), (.tup [Aq40], .int 50), (.tup [Aq43], .int 51), (Aq90, .int 52), (Aq91, .int 53), (Aq99, .int 54), (.tup [Aq0, Aq5], .int 55), (.tup [Aq2, Aq8], .int 56), (Aq109, .int 57), (Aq110, .int 58), (.tup [Aq11, Aq15], .int 59), (.tup [Aq12, Aq28], .int 60), (Aq111, .int 61), (.tup [Aq13, Aq8], .int 62), (Aq112, .int 63), (Aq113, .int 64), (.tup [Aq22, Aq28], .int 65), (Aq114, .int 66), (Aq122, .int 67), (Aq123, .int 68), (Aq124, .int 69), (Aq125, .int 70), (Aq126, .int 71), (Aq127, .int 72), (.tup [Aq22, Aq5], .int 73), (Aq128, .int 74), (Aq129, .int 75), (Aq137, .int 76), (Aq138, .int 77), (Aq139, .int 78), (Aq140, .int 79), (Aq141, .int 80), (Aq142, .int 81), (Aq143, .int 82), (Aq144, .int 83), (Aq152, .int 84), (Aq153, .int 85), (Aq154, .int 86), (Aq155, .int 87), (Aq156, .int 88), (Aq162, .int 89), (Aq170, .int 90), (Aq171, .int 91), (Aq176, .int 92), (Aq177, .int 93), (Aq178, .int 94), (Aq179, .int 95), (.tup [Aq40, Aq8], .int 96), (Aq187, .int 97), (Aq188, .int 98), (Aq189, .int 99), (Aq197, .int 100), (Aq205, .int 101), (Aq206, .int 102), (Aq207, .int 103), (Aq208, .int 104), (Aq215, .int 105), (Aq216, .int 106), (Aq217, .int 107), (Aq218, .int 108), (Aq225, .int 109), (Aq226, .int 110), (Aq227, .int 111), (Aq228, .int 112), (Aq229, .int 113), (Aq230, .int 114), (Aq238, .int 115), (Aq239, .int 116), (Aq240, .int 117), (Aq241, .int 118), (Aq242, .int 119), (Aq250, .int 120), (.tup [Aq13, Aq40], .int 121), (.tup [Aq15, Aq43], .int 122), (Aq256, .int 123), (Aq262, .int 124), (Aq267, .int 125), (Aq275, .int 126), (Aq276, .int 127), (Aq282, .int 128), (Aq283, .int 129), (Aq284, .int 130), (Aq292, .int 131), (Aq293, .int 132), (Aq299, .int 133), (Aq300, .int 134), (Aq306, .int 135)]
def Aq308 : D := .lst [.tup [Aq0], .tup [Aq2], .tup [Aq3, Aq4], Aq7, Aq10, .tup [], .tup [Aq11], .tup [Aq12], .tup [Aq13, Aq14], Aq17, .tup [Aq3], .tup [Aq5], .tup [Aq18, Aq8], Aq21, Aq25, .tup [Aq13, Aq2], Aq26, Aq29, Aq32, .tup [Aq22, Aq12], Aq41, Aq44, .tup [Aq8], .tup [Aq3, Aq20], .tup [Aq5, Aq24], .tup [Aq13], .tup [Aq15], .tup [Aq28], .tup [Aq13, Aq31], .tup [Aq0, Aq22], .tup [Aq2, Aq40], Aq59, Aq61, Aq63, .tup [Aq3, Aq15], .tup [Aq5, Aq28], Aq65, .tup [Aq3, Aq11], .tup [Aq5, Aq12], Aq66, Aq67, Aq75, Aq76, Aq77, Aq78, Aq79, Aq80, Aq81, Aq82, .tup [Aq22], .tup [Aq40], .tup [Aq43], Aq90, Aq91, Aq99, .tup [Aq0, Aq5], .tup [Aq2, Aq8], Aq109, Aq110, .tup [Aq11, Aq15], .tup [Aq12, Aq28], Aq111, .tup [Aq13, Aq8], Aq112, Aq113, .tup [Aq22, Aq28], Aq114, Aq122, Aq123, Aq124, Aq125, Aq126, Aq127, .tup [Aq22, Aq5], Aq128, Aq129, Aq137, Aq138, Aq139, Aq140, Aq141, Aq142, Aq143, Aq144, Aq152, Aq153, Aq154, Aq155, Aq156, Aq162, Aq170, Aq171, Aq176, Aq177, Aq178, Aq179, .tup [Aq40, Aq8], Aq187, Aq188, Aq189, Aq197, Aq205, Aq206, Aq207, Aq208, Aq215, Aq216, Aq217, Aq218, Aq225, Aq226, Aq227, Aq228, Aq229, Aq230, Aq238, Aq239, Aq240, Aq241, Aq242, Aq250, .tup [Aq13, Aq40], .tup [Aq15, Aq43], Aq256, Aq262, Aq267, Aq275, Aq276, Aq282, Aq283, Aq284, Aq292, Aq293, Aq299, Aq300, Aq306]
def Aq309 : D := .lst [.int 5, .int 25, .int 34, .int 82, .int 135]
def Aq310 : D := .lst [Aq35, Aq36, Aq37, Aq38, Aq47, Aq48, Aq49, Aq50, Aq54, Aq55, Aq56, Aq57, Aq70, Aq71, Aq72, Aq73, Aq85, Aq86, Aq87, Aq88, Aq94, Aq95, Aq96, Aq97, Aq102, Aq103, Aq104, Aq105, Aq107, Aq35, Aq36, Aq37, Aq117, Aq118, Aq119, Aq120, Aq132, Aq133, Aq134, Aq135, Aq147, Aq148, Aq149, Aq150, Aq86, Aq87, Aq159, Aq160, Aq165, Aq166, Aq167, Aq168, Aq97, Aq102, Aq107, Aq174, Aq182, Aq183, Aq184, Aq185, Aq192, Aq193, Aq194, Aq195, Aq200, Aq201, Aq202, Aq174, Aq182, Aq183, Aq183, Aq184, Aq193, Aq211, Aq212, Aq213, Aq221, Aq222, Aq223, Aq183, Aq233, Aq234, Aq235, Aq236, Aq245, Aq246, Aq247, Aq248, Aq253, Aq223, Aq86, Aq87, Aq95, Aq71, Aq72, Aq87, Aq259, Aq260, Aq195, Aq200, Aq202, Aq265, Aq73, Aq85, Aq270, Aq165, Aq149, Aq150, Aq87, Aq223, Aq272, Aq273, Aq279, Aq221, Aq222, Aq222, Aq223, Aq273, Aq213, Aq222, Aq287, Aq288, Aq289, Aq290, Aq260, Aq247, Aq296, Aq297, Aq303, Aq304, Aq265, Aq297, Aq309, Aq304, Aq253, Aq279]
def Aq311 : D := .lst [.tup [.bl true, .bl false], .tup [.bl false, .bl false], .tup [.bl false, .bl true], .tup [.bl true, .bl false], .tup [.bl false, .bl false], .tup [.bl false, .bl false], .tup [.bl false, .bl false], .tup [.bl false, .bl false], .tup [.bl false, .bl false], .tup [.bl false, .bl false], .tup [.bl false, .bl true], .tup [.bl false, .bl false], .tup [.bl false, .bl false], .tup [.bl false, .bl true], .tup [.bl false, .bl false], .tup [.bl false, .bl false], .tup [.bl false, .bl true], .tup [.bl true, .bl false], .tup [.bl false, .bl false], .tup [.bl false, .bl false], .tup [.bl false, .bl false], .tup [.bl false, .bl false], .tup [.bl false, .bl false], .tup [.bl false, .bl true], .tup [.bl false, .bl false], .tup [.bl false, .bl false], .tup [.bl false, .bl false], .tup [.bl false, .bl false], .tup [.bl false, .bl false], .tup [.bl true, .bl false], .tup [.bl false, .bl false], .tup [.bl false, .bl true], .tup [.bl false, .bl true], .tup [.bl false, .bl false], .tup [.bl false, .bl true], .tup [.bl false, .bl false], .tup [.bl false, .bl false], .tup [.bl false, .bl true], .tup [.bl false, .bl false], .tup [.bl false, .bl false], .tup [.bl false, .bl true], .tup [.bl false, .bl false], .tup [.bl false, .bl true], .tup [.bl false, .bl false], .tup [.bl true, .bl false], .tup [.bl false, .bl false], .tup [.bl false, .bl false], .tup [.bl false, .bl false], .tup [.bl false, .bl true], .tup [.bl false, .bl false], .tup [.bl false, .bl false], .tup [.bl false, .bl false], .tup [.bl false, .bl true], .tup [.bl false, .bl false], .tup [.bl false, .bl false], .tup [.bl true, .bl false], .tup [.bl false, .bl false], .tup [.bl false, .bl true], .tup [.bl true, .bl false], .tup [.bl false, .bl false], .tup [.bl false, .bl false], .tup [.bl false, .bl false], .tup [.bl false, .bl false], .tup [.bl false, .bl true], .tup [.bl false, .bl false], .tup [.bl false, .bl false], .tup [.bl false, .bl false], .tup [.bl true, .bl false], .tup [.bl false, .bl false], .tup [.bl false, .bl true], .tup [.bl false, .bl true], .tup [.bl true, .bl false], .tup [.bl false, .bl false], .tup [.bl false, .bl false], .tup [.bl false, .bl false], .tup [.bl false, .bl true], .tup [.bl false, .bl false], .tup [.bl false, .bl true], .tup [.bl true, .bl false], .tup [.bl false, .bl true], .tup [.bl false, .bl true], .tup [.bl false, .bl false], .tup [.bl false, .bl false], .tup [.bl false, .bl false], .tup [.bl false, .bl true], .tup [.bl false, .bl false], .tup [.bl false, .bl false], .tup [.bl false, .bl false], .tup [.bl false, .bl true], .tup [.bl true, .bl false], .tup [.bl true, .bl false], .tup [.bl false, .bl false], .tup [.bl false, .bl false], .tup [.bl false, .bl true], .tup [.bl false, .bl false], .tup [.bl false, .bl false], .tup [.bl false, .bl false], .tup [.bl false, .bl true], .tup [.bl false, .bl true], .tup [.bl false, .bl false], .tup [.bl false, .bl false], .tup [.bl false, .bl false], .tup [.bl false, .bl false], .tup [.bl false, .bl true], .tup [.bl false, .bl false], .tup [.bl false, .bl true], .tup [.bl false, .bl true], .tup [.bl false, .bl false], .tup [.bl false, .bl false], .tup [.bl true, .bl false], .tup [.bl false, .bl false], .tup [.bl false, .bl false], .tup [.bl false, .bl false], .tup [.bl false, .bl false], .tup [.bl false, .bl true], .tup [.bl false, .bl true], .tup [.bl true, .bl false], .tup [.bl false, .bl false], .tup [.bl false, .bl true], .tup [.bl false, .bl true], .tup [.bl false, .bl false], .tup [.bl false, .bl false], .tup [.bl false, .bl false], .tup [.bl false, .bl false], .tup [.bl false, .bl true], .tup [.bl false, .bl false], .tup [.bl false, .bl false], .tup [.bl false, .bl true], .tup [.bl false, .bl false], .tup [.bl false, .bl false], .tup [.bl false, .bl false], .tup [.bl false, .bl true], .tup [.bl false, .bl false], .tup [.bl false, .bl false], .tup [.bl false, .bl true], .tup [.bl false, .bl false]]
def Ae0 : List Sl := [.cel Aq1, .un, .un, .un, .un, .un, .un]
def Ae1 : List Sl := [.cel Aq1, .cel (.lst [.tup [Aq0]]), .un, .un, .un, .un, .un]
def Ae2 : List Sl := [.cel Aq1, .cel (.lst [.tup [Aq0]]), .cel (.lst []), .un, .un, .un, .un]
def Ae3 : List Sl := [.cel Aq1, .cel (.lst [.tup [Aq0]]), .cel (.lst []), .un, .un, .un, .un]
def Ae4 : List Sl := [.cel Aq33, .cel Aq34, .cel Aq39, .dat Aq38, .dat (.int 4), .dat Aq32, .un]
def Ae5 : List Sl := [.cel Aq45, .cel Aq46, .cel Aq51, .dat Aq50, .dat (.int 4), .dat (.tup [Aq13, Aq14]), .un]
def Ae6 : List Sl := [.cel Aq52, .cel Aq53, .cel Aq58, .dat Aq57, .dat (.int 4), .dat (.tup [Aq13, Aq31]), .un]
def Ae7 : List Sl := [.cel Aq68, .cel Aq69, .cel Aq74, .dat Aq73, .dat (.int 4), .dat Aq67, .un]
def Ae8 : List Sl := [.cel Aq83, .cel Aq84, .cel Aq89, .dat Aq88, .dat (.int 4), .dat Aq66, .un]
def Ae9 : List Sl := [.cel Aq92, .cel Aq93, .cel Aq98, .dat Aq97, .dat (.int 4), .dat Aq91, .un]
def Ae10 : List Sl := [.cel Aq100, .cel Aq101, .cel Aq106, .dat Aq105, .dat (.int 4), .dat (.tup [Aq40]), .un]
def Ae11 : List Sl := [.cel Aq100, .cel Aq101, .cel Aq108, .dat Aq37, .dat (.int 4), .dat Aq25, .un]
def Ae12 : List Sl := [.cel Aq115, .cel Aq116, .cel Aq121, .dat Aq120, .dat (.int 4), .dat Aq114, .un]
def Ae13 : List Sl := [.cel Aq130, .cel Aq131, .cel Aq136, .dat Aq135, .dat (.int 4), .dat Aq129, .un]
def Ae14 : List Sl := [.cel Aq145, .cel Aq146, .cel Aq151, .dat Aq150, .dat (.int 4), .dat Aq144, .un]
def Ae15 : List Sl := [.cel Aq157, .cel Aq158, .cel Aq161, .dat Aq160, .dat (.int 4), .dat Aq156, .un]
def Ae16 : List Sl := [.cel Aq163, .cel Aq164, .cel Aq169, .dat Aq168, .dat (.int 4), .dat (.tup [Aq22]), .un]
def Ae17 : List Sl := [.cel Aq172, .cel Aq173, .cel Aq175, .dat Aq174, .dat (.int 4), .dat Aq171, .un]
def Ae18 : List Sl := [.cel Aq180, .cel Aq181, .cel Aq186, .dat Aq185, .dat (.int 4), .dat Aq170, .un]
def Ae19 : List Sl := [.cel Aq190, .cel Aq191, .cel Aq196, .dat Aq195, .dat (.int 4), .dat Aq189, .un]
def Ae20 : List Sl := [.cel Aq198, .cel Aq199, .cel Aq203, .dat Aq174, .dat (.int 4), .dat Aq171, .un]
def Ae21 : List Sl := [.cel Aq198, .cel Aq199, .cel Aq204, .dat Aq184, .dat (.int 4), .dat Aq179, .un]
def Ae22 : List Sl := [.cel Aq209, .cel Aq210, .cel Aq214, .dat Aq213, .dat (.int 4), .dat Aq208, .un]
def Ae23 : List Sl := [.cel Aq219, .cel Aq220, .cel Aq224, .dat Aq183, .dat (.int 4), .dat Aq178, .un]
def Ae24 : List Sl := [.cel Aq231, .cel Aq232, .cel Aq237, .dat Aq236, .dat (.int 4), .dat Aq230, .un]
def Ae25 : List Sl := [.cel Aq243, .cel Aq244, .cel Aq249, .dat Aq248, .dat (.int 4), .dat Aq242, .un]
def Ae26 : List Sl := [.cel Aq251, .cel Aq252, .cel Aq254, .dat Aq87, .dat (.int 4), .dat Aq82, .un]
def Ae27 : List Sl := [.cel Aq251, .cel Aq252, .cel Aq255, .dat Aq87, .dat (.int 4), .dat Aq82, .un]
def Ae28 : List Sl := [.cel Aq257, .cel Aq258, .cel Aq261, .dat Aq200, .dat (.int 4), .dat Aq197, .un]
def Ae29 : List Sl := [.cel Aq263, .cel Aq264, .cel Aq266, .dat Aq85, .dat (.int 4), .dat Aq77, .un]
def Ae30 : List Sl := [.cel Aq268, .cel Aq269, .cel Aq271, .dat Aq150, .dat (.int 4), .dat Aq144, .un]
def Ae31 : List Sl := [.cel Aq268, .cel Aq269, .cel Aq274, .dat Aq273, .dat (.int 4), .dat Aq216, .un]
def Ae32 : List Sl := [.cel Aq277, .cel Aq278, .cel Aq280, .dat Aq222, .dat (.int 4), .dat Aq217, .un]
def Ae33 : List Sl := [.cel Aq277, .cel Aq278, .cel Aq281, .dat Aq222, .dat (.int 4), .dat Aq217, .un]
def Ae34 : List Sl := [.cel Aq285, .cel Aq286, .cel Aq291, .dat Aq290, .dat (.int 4), .dat Aq284, .un]
def Ae35 : List Sl := [.cel Aq294, .cel Aq295, .cel Aq298, .dat Aq297, .dat (.int 4), .dat Aq293, .un]
def Ae36 : List Sl := [.cel Aq301, .cel Aq302, .cel Aq305, .dat Aq297, .dat (.int 4), .dat Aq293, .un]
def Ae37 : List Sl := [.cel Aq307, .cel Aq308, .cel Aq310, .dat Aq279, .dat (.int 4), .dat Aq276, .un]
def Ae38 : List Sl := [.cel Aq307, .dat Aq308, .cel Aq310, .dat Aq279, .dat (.int 4), .dat Aq276, .un]
def Ae39 : List Sl := [.cel Aq307, .dat Aq308, .dat Aq310, .dat Aq279, .dat (.int 4), .dat Aq276, .un]
def AV : D := .tup [Aq310, Aq311]
theorem At0 : exSs (P.cl 5) (startS fd_sets_reached []) (dropS 0 fd_sets_reached.body) [] = exSs (P.cl 5) Ae0 (dropS 1 fd_sets_reached.body) [] := at_st (b := fd_sets_reached.body) 0 rfl (by decide +kernel)
theorem At1 : exSs (P.cl 5) Ae0 (dropS 1 fd_sets_reached.body) [] = exSs (P.cl 5) Ae1 (dropS 2 fd_sets_reached.body) [] := at_st (b := fd_sets_reached.body) 1 rfl (by decide +kernel)
theorem At2 : exSs (P.cl 5) Ae1 (dropS 2 fd_sets_reached.body) [] = exSs (P.cl 5) Ae2 (dropS 3 fd_sets_reached.body) [] := at_st (b := fd_sets_reached.body) 2 rfl (by decide +kernel)
theorem Aw3_0 : inS (whlR (fun ρ => evb (P.cl 5) ρ (whlT (nthS fd_sets_reached.body 3))) (fun ρ => exSs (P.cl 5) ρ (whlD (nthS fd_sets_reached.body 3))) 4 Ae3 []) Ae4 = true := by decide +kernel
theorem Aw3_4 : inS (whlR (fun ρ => evb (P.cl 5) ρ (whlT (nthS fd_sets_reached.body 3))) (fun ρ => exSs (P.cl 5) ρ (whlD (nthS fd_sets_reached.body 3))) 4 Ae4 []) Ae5 = true := by decide +kernel
theorem Aw3_8 : inS (whlR (fun ρ => evb (P.cl 5) ρ (whlT (nthS fd_sets_reached.body 3))) (fun ρ => exSs (P.cl 5) ρ (whlD (nthS fd_sets_reached.body 3))) 4 Ae5 []) Ae6 = true := by decide +kernel
theorem Aw3_12 : inS (whlR (fun ρ => evb (P.cl 5) ρ (whlT (nthS fd_sets_reached.body 3))) (fun ρ => exSs (P.cl 5) ρ (whlD (nthS fd_sets_reached.body 3))) 4 Ae6 []) Ae7 = true := by decide +kernel
theorem Aw3_16 : inS (whlR (fun ρ => evb (P.cl 5) ρ (whlT (nthS fd_sets_reached.body 3))) (fun ρ => exSs (P.cl 5) ρ (whlD (nthS fd_sets_reached.body 3))) 4 Ae7 []) Ae8 = true := by decide +kernel
theorem Aw3_20 : inS (whlR (fun ρ => evb (P.cl 5) ρ (whlT (nthS fd_sets_reached.body 3))) (fun ρ => exSs (P.cl 5) ρ (whlD (nthS fd_sets_reached.body 3))) 4 Ae8 []) Ae9 = true := by decide +kernel
theorem Aw3_24 : inS (whlR (fun ρ => evb (P.cl 5) ρ (whlT (nthS fd_sets_reached.body 3))) (fun ρ => exSs (P.cl 5) ρ (whlD (nthS fd_sets_reached.body 3))) 4 Ae9 []) Ae10 = true := by decide +kernel
theorem Aw3_28 : inS (whlR (fun ρ => evb (P.cl 5) ρ (whlT (nthS fd_sets_reached.body 3))) (fun ρ => exSs (P.cl 5) ρ (whlD (nthS fd_sets_reached.body 3))) 4 Ae10 []) Ae11 = true := by decide +kernel
theorem Aw3_32 : inS (whlR (fun ρ => evb (P.cl 5) ρ (whlT (nthS fd_sets_reached.body 3))) (fun ρ => exSs (P.cl 5) ρ (whlD (nthS fd_sets_reached.body 3))) 4 Ae11 []) Ae12 = true := by decide +kernel
theorem Aw3_36 : inS (whlR (fun ρ => evb (P.cl 5) ρ (whlT (nthS fd_sets_reached.body 3))) (fun ρ => exSs (P.cl 5) ρ (whlD (nthS fd_sets_reached.body 3))) 4 Ae12 []) Ae13 = true := by decide +kernel
theorem Aw3_40 : inS (whlR (fun ρ => evb (P.cl 5) ρ (whlT (nthS fd_sets_reached.body 3))) (fun ρ => exSs (P.cl 5) ρ (whlD (nthS fd_sets_reached.body 3))) 4 Ae13 []) Ae14 = true := by decide +kernel
theorem Aw3_44 : inS (whlR (fun ρ => evb (P.cl 5) ρ (whlT (nthS fd_sets_reached.body 3))) (fun ρ => exSs (P.cl 5) ρ (whlD (nthS fd_sets_reached.body 3))) 4 Ae14 []) Ae15 = true := by decide +kernel
theorem Aw3_48 : inS (whlR (fun ρ => evb (P.cl 5) ρ (whlT (nthS fd_sets_reached.body 3))) (fun ρ => exSs (P.cl 5) ρ (whlD (nthS fd_sets_reached.body 3))) 4 Ae15 []) Ae16 = true := by decide +kernel
theorem Aw3_52 : inS (whlR (fun ρ => evb (P.cl 5) ρ (whlT (nthS fd_sets_reached.body 3))) (fun ρ => exSs (P.cl 5) ρ (whlD (nthS fd_sets_reached.body 3))) 4 Ae16 []) Ae17 = true := by decide +kernel
theorem Aw3_56 : inS (whlR (fun ρ => evb (P.cl 5) ρ (whlT (nthS fd_sets_reached.body 3))) (fun ρ => exSs (P.cl 5) ρ (whlD (nthS fd_sets_reached.body 3))) 4 Ae17 []) Ae18 = true := by decide +kernel
theorem Aw3_60 : inS (whlR (fun ρ => evb (P.cl 5) ρ (whlT (nthS fd_sets_reached.body 3))) (fun ρ => exSs (P.cl 5) ρ (whlD (nthS fd_sets_reached.body 3))) 4 Ae18 []) Ae19 = true := by decide +kernel
theorem Aw3_64 : inS (whlR (fun ρ => evb (P.cl 5) ρ (whlT (nthS fd_sets_reached.body 3))) (fun ρ => exSs (P.cl 5) ρ (whlD (nthS fd_sets_reached.body 3))) 4 Ae19 []) Ae20 = true := by decide +kernel
theorem Aw3_68 : inS (whlR (fun ρ => evb (P.cl 5) ρ (whlT (nthS fd_sets_reached.body 3))) (fun ρ => exSs (P.cl 5) ρ (whlD (nthS fd_sets_reached.body 3))) 4 Ae20 []) Ae21 = true := by decide +kernel
theorem Aw3_72 : inS (whlR (fun ρ => evb (P.cl 5) ρ (whlT (nthS fd_sets_reached.body 3))) (fun ρ => exSs (P.cl 5) ρ (whlD (nthS fd_sets_reached.body 3))) 4 Ae21 []) Ae22 = true := by decide +kernel
theorem Aw3_76 : inS (whlR (fun ρ => evb (P.cl 5) ρ (whlT (nthS fd_sets_reached.body 3))) (fun ρ => exSs (P.cl 5) ρ (whlD (nthS fd_sets_reached.body 3))) 4 Ae22 []) Ae23 = true := by decide +kernel
theorem Aw3_80 : inS (whlR (fun ρ => evb (P.cl 5) ρ (whlT (nthS fd_sets_reached.body 3))) (fun ρ => exSs (P.cl 5) ρ (whlD (nthS fd_sets_reached.body 3))) 4 Ae23 []) Ae24 = true := by decide +kernel
theorem Aw3_84 : inS (whlR (fun ρ => evb (P.cl 5) ρ (whlT (nthS fd_sets_reached.body 3))) (fun ρ => exSs (P.cl 5) ρ (whlD (nthS fd_sets_reached.body 3))) 4 Ae24 []) Ae25 = true := by decide +kernel
theorem Aw3_88 : inS (whlR (fun ρ => evb (P.cl 5) ρ (whlT (nthS fd_sets_reached.body 3))) (fun ρ => exSs (P.cl 5) ρ (whlD (nthS fd_sets_reached.body 3))) 4 Ae25 []) Ae26 = true := by decide +kernel
theorem Aw3_92 : inS (whlR (fun ρ => evb (P.cl 5) ρ (whlT (nthS fd_sets_reached.body 3))) (fun ρ => exSs (P.cl 5) ρ (whlD (nthS fd_sets_reached.body 3))) 4 Ae26 []) Ae27 = true := by decide +kernel
theorem Aw3_96 : inS (whlR (fun ρ => evb (P.cl 5) ρ (whlT (nthS fd_sets_reached.body 3))) (fun ρ => exSs (P.cl 5) ρ (whlD (nthS fd_sets_reached.body 3))) 4 Ae27 []) Ae28 = true := by decide +kernel
theorem Aw3_100 : inS (whlR (fun ρ => evb (P.cl 5) ρ (whlT (nthS fd_sets_reached.body 3))) (fun ρ => exSs (P.cl 5) ρ (whlD (nthS fd_sets_reached.body 3))) 4 Ae28 []) Ae29 = true := by decide +kernel
theorem Aw3_104 : inS (whlR (fun ρ => evb (P.cl 5) ρ (whlT (nthS fd_sets_reached.body 3))) (fun ρ => exSs (P.cl 5) ρ (whlD (nthS fd_sets_reached.body 3))) 4 Ae29 []) Ae30 = true := by decide +kernel
theorem Aw3_108 : inS (whlR (fun ρ => evb (P.cl 5) ρ (whlT (nthS fd_sets_reached.body 3))) (fun ρ => exSs (P.cl 5) ρ (whlD (nthS fd_sets_reached.body 3))) 4 Ae30 []) Ae31 = true := by decide +kernel
theorem Aw3_112 : inS (whlR (fun ρ => evb (P.cl 5) ρ (whlT (nthS fd_sets_reached.body 3))) (fun ρ => exSs (P.cl 5) ρ (whlD (nthS fd_sets_reached.body 3))) 4 Ae31 []) Ae32 = true := by decide +kernel
theorem Aw3_116 : inS (whlR (fun ρ => evb (P.cl 5) ρ (whlT (nthS fd_sets_reached.body 3))) (fun ρ => exSs (P.cl 5) ρ (whlD (nthS fd_sets_reached.body 3))) 4 Ae32 []) Ae33 = true := by decide +kernel
theorem Aw3_120 : inS (whlR (fun ρ => evb (P.cl 5) ρ (whlT (nthS fd_sets_reached.body 3))) (fun ρ => exSs (P.cl 5) ρ (whlD (nthS fd_sets_reached.body 3))) 4 Ae33 []) Ae34 = true := by decide +kernel
theorem Aw3_124 : inS (whlR (fun ρ => evb (P.cl 5) ρ (whlT (nthS fd_sets_reached.body 3))) (fun ρ => exSs (P.cl 5) ρ (whlD (nthS fd_sets_reached.body 3))) 4 Ae34 []) Ae35 = true := by decide +kernel
theorem Aw3_128 : inS (whlR (fun ρ => evb (P.cl 5) ρ (whlT (nthS fd_sets_reached.body 3))) (fun ρ => exSs (P.cl 5) ρ (whlD (nthS fd_sets_reached.body 3))) 4 Ae35 []) Ae36 = true := by decide +kernel
theorem Aw3_132 : inS (whlR (fun ρ => evb (P.cl 5) ρ (whlT (nthS fd_sets_reached.body 3))) (fun ρ => exSs (P.cl 5) ρ (whlD (nthS fd_sets_reached.body 3))) 4 Ae36 []) Ae37 = true := by decide +kernel
theorem AW3 : whlB (fun ρ => evb (P.cl 5) ρ (whlT (nthS fd_sets_reached.body 3))) (fun ρ => exSs (P.cl 5) ρ (whlD (nthS fd_sets_reached.body 3))) 1000000 Ae3 [] = whlB (fun ρ => evb (P.cl 5) ρ (whlT (nthS fd_sets_reached.body 3))) (fun ρ => exSs (P.cl 5) ρ (whlD (nthS fd_sets_reached.body 3))) 999864 Ae37 [] := (whl_cutE (M := 1000000) 999996 rfl Aw3_0).trans ((whl_cutE (M := 999996) 999992 rfl Aw3_4).trans ((whl_cutE (M := 999992) 999988 rfl Aw3_8).trans ((whl_cutE (M := 999988) 999984 rfl Aw3_12).trans ((whl_cutE (M := 999984) 999980 rfl Aw3_16).trans ((whl_cutE (M := 999980) 999976 rfl Aw3_20).trans ((whl_cutE (M := 999976) 999972 rfl Aw3_24).trans ((whl_cutE (M := 999972) 999968 rfl Aw3_28).trans ((whl_cutE (M := 999968) 999964 rfl Aw3_32).trans ((whl_cutE (M := 999964) 999960 rfl Aw3_36).trans ((whl_cutE (M := 999960) 999956 rfl Aw3_40).trans ((whl_cutE (M := 999956) 999952 rfl Aw3_44).trans ((whl_cutE (M := 999952) 999948 rfl Aw3_48).trans ((whl_cutE (M := 999948) 999944 rfl Aw3_52).trans ((whl_cutE (M := 999944) 999940 rfl Aw3_56).trans ((whl_cutE (M := 999940) 999936 rfl Aw3_60).trans ((whl_cutE (M := 999936) 999932 rfl Aw3_64).trans ((whl_cutE (M := 999932) 999928 rfl Aw3_68).trans ((whl_cutE (M := 999928) 999924 rfl Aw3_72).trans ((whl_cutE (M := 999924) 999920 rfl Aw3_76).trans ((whl_cutE (M := 999920) 999916 rfl Aw3_80).trans ((whl_cutE (M := 999916) 999912 rfl Aw3_84).trans ((whl_cutE (M := 999912) 999908 rfl Aw3_88).trans ((whl_cutE (M := 999908) 999904 rfl Aw3_92).trans ((whl_cutE (M := 999904) 999900 rfl Aw3_96).trans ((whl_cutE (M := 999900) 999896 rfl Aw3_100).trans ((whl_cutE (M := 999896) 999892 rfl Aw3_104).trans ((whl_cutE (M := 999892) 999888 rfl Aw3_108).trans ((whl_cutE (M := 999888) 999884 rfl Aw3_112).trans ((whl_cutE (M := 999884) 999880 rfl Aw3_116).trans ((whl_cutE (M := 999880) 999876 rfl Aw3_120).trans ((whl_cutE (M := 999876) 999872 rfl Aw3_124).trans ((whl_cutE (M := 999872) 999868 rfl Aw3_128).trans ((whl_cutE (M := 999868) 999864 rfl Aw3_132))))))))))))))))))))))))))))))))))
theorem At3 : exSs (P.cl 5) Ae2 (dropS 3 fd_sets_reached.body) [] = exSs (P.cl 5) Ae37 (dropS 4 fd_sets_reached.body) [] := at_whl (b := fd_sets_reached.body) (N := 999863) (M := 999864) 3 rfl rfl AW3 (by decide +kernel)
theorem At4 : exSs (P.cl 5) Ae37 (dropS 4 fd_sets_reached.body) [] = exSs (P.cl 5) Ae38 (dropS 5 fd_sets_reached.body) [] := at_st (b := fd_sets_reached.body) 4 rfl (by decide +kernel)
theorem At5 : exSs (P.cl 5) Ae38 (dropS 5 fd_sets_reached.body) [] = exSs (P.cl 5) Ae39 (dropS 6 fd_sets_reached.body) [] := at_st (b := fd_sets_reached.body) 5 rfl (by decide +kernel)
theorem Ar : inR (exSs (P.cl 5) Ae39 (dropS 6 fd_sets_reached.body) []) (.dat AV) = true := by decide +kernel
theorem A_val : callN P 6 3 [] [] = .ok (.dat AV) [] := call_ret (fd := fd_sets_reached) rfl rfl (At0.trans (At1.trans (At2.trans (At3.trans (At4.trans (At5.trans (inR_eq Ar)))))))
end MW
namespace MW
open PySem (Str)
def Cq0 : D := .tup [.int 0, .int 0, .int 0]
def Cq1 : D := .dct [(.tup [Cq0], .int 0)]
def Cq2 : D := .tup [.int 1, .int 0, .int 0]
def Cq3 : D := .tup [.int 0, .int 0, .int 1]
def Cq4 : D := .tup [.int 2, .int 0, .int 0]
def Cq5 : D := .tup [.int 1, .int 0, .int 1]
def Cq6 : D := .tup [.int 3, .int 0, .int 0]
def Cq7 : D := .tup [Cq0, Cq5, Cq6]
def Cq8 : D := .tup [.int 2, .int 0, .int 1]
def Cq9 : D := .tup [.int 4, .int 0, .int 0]
def Cq10 : D := .tup [Cq2, Cq8, Cq9]
def Cq11 : D := .tup [.int 0, .int 1, .int 0]
def Cq12 : D := .tup [.int 1, .int 1, .int 0]
def Cq13 : D := .tup [.int 0, .int 1, .int 1]
def Cq14 : D := .tup [.int 2, .int 1, .int 0]
def Cq15 : D := .tup [.int 1, .int 1, .int 1]
def Cq16 : D := .tup [.int 3, .int 1, .int 0]
def Cq17 : D := .tup [Cq11, Cq15, Cq16]
def Cq18 : D := .tup [.int 0, .int 2, .int 0]
def Cq19 : D := .tup [.int 1, .int 2, .int 0]
def Cq20 : D := .tup [.int 3, .int 0, .int 1]
def Cq21 : D := .tup [Cq3, Cq19, Cq20]
def Cq22 : D := .tup [.int 0, .int 2, .int 1]
def Cq23 : D := .tup [.int 2, .int 2, .int 0]
def Cq24 : D := .tup [.int 4, .int 0, .int 1]
def Cq25 : D := .tup [Cq22, Cq5, Cq23, Cq24]
def Cq26 : D := .tup [Cq3, Cq15, Cq4]
def Cq27 : D := .tup [.int 0, .int 3, .int 0]
def Cq28 : D := .tup [.int 2, .int 1, .int 1]
def Cq29 : D := .tup [Cq0, Cq27, Cq5, Cq28, Cq6]
def Cq30 : D := .tup [.int 1, .int 3, .int 0]
def Cq31 : D := .tup [.int 3, .int 1, .int 1]
def Cq32 : D := .tup [Cq13, Cq2, Cq30, Cq8, Cq31, Cq9]
def Cq33 : D := .lst [.tup [Cq0], .tup [Cq2], .tup [Cq3, Cq4], Cq7, Cq10, .tup [], .tup [Cq11], .tup [Cq12], .tup [Cq13, Cq14], Cq17, .tup [Cq3], .tup [Cq5], .tup [Cq18, Cq8], Cq21, Cq25, .tup [Cq13, Cq2], Cq26, Cq29, Cq32]
def Cq34 : D := .lst [.int 0, .int 1, .int 2, .int 3, .int 4]
def Cq35 : D := .lst [.int 5, .int 6, .int 7, .int 8, .int 9]
def Cq36 : D := .lst [.int 10, .int 11, .int 12, .int 13, .int 14]
def Cq37 : D := .lst [.int 0, .int 15, .int 16, .int 17, .int 18]
def Cq38 : D := .lst [Cq34, Cq35, Cq36, Cq37]
def Cq39 : D := .dct [(.tup [Cq0], .int 0), (.tup [Cq2], .int 1), (.tup [Cq3, Cq4], .int 2), (Cq7, .int 3), (Cq10, .int 4), (.tup [], .int 5), (.tup [Cq11], .int 6), (.tup [Cq12], .int 7), (.tup [Cq13, Cq14], .int 8), (Cq17, .int 9), (.tup [Cq3], .int 10), (.tup [Cq5], .int 11), (.tup [Cq18, Cq8], .int 12), (Cq21, .int 13), (Cq25, .int 14), (.tup [Cq13, Cq2], .int 15), (Cq26, .int 16), (Cq29, .int 17), (Cq32, .int 18)]
def Cq40 : D := .tup [.int 1, .int 2, .int 1]
def Cq41 : D := .tup [Cq13, Cq40, Cq14]
def Cq42 : D := .tup [.int 0, .int 4, .int 0]
def Cq43 : D := .tup [.int 2, .int 2, .int 1]
def Cq44 : D := .tup [Cq11, Cq42, Cq15, Cq43, Cq16]
def Cq45 : D := .lst [.tup [Cq0], .tup [Cq2], .tup [Cq3, Cq4], Cq7, Cq10, .tup [], .tup [Cq11], .tup [Cq12], .tup [Cq13, Cq14], Cq17, .tup [Cq3], .tup [Cq5], .tup [Cq18, Cq8], Cq21, Cq25, .tup [Cq13, Cq2], Cq26, Cq29, Cq32, .tup [Cq22, Cq12], Cq41, Cq44]
def Cq46 : D := .lst [.int 5, .int 6, .int 19, .int 20, .int 21]
def Cq47 : D := .lst [.int 5, .int 5, .int 5, .int 5, .int 5]
def Cq48 : D := .lst [.int 5, .int 0, .int 1, .int 2, .int 3]
def Cq49 : D := .lst [.int 5, .int 5, .int 6, .int 7, .int 8]
def Cq50 : D := .lst [Cq34, Cq35, Cq36, Cq37, Cq46, Cq47, Cq48, Cq49]
def Cq51 : D := .dct [(.tup [Cq0], .int 0), (.tup [Cq2], .int 1), (.tup [Cq3, Cq4], .int 2), (Cq7, .int 3), (Cq10, .int 4), (.tup [], .int 5), (.tup [Cq11], .int 6), (.tup [Cq12], .int 7), (.tup [Cq13, Cq14], .int 8), (Cq17, .int 9), (.tup [Cq3], .int 10), (.tup [Cq5], .int 11), (.tup [Cq18, Cq8], .int 12), (Cq21, .int 13), (Cq25, .int 14), (.tup [Cq13, Cq2], .int 15), (Cq26, .int 16), (Cq29, .int 17), (Cq32, .int 18), (.tup [Cq22, Cq12], .int 19), (Cq41, .int 20), (Cq44, .int 21)]
def Cq52 : D := .lst [.tup [Cq0], .tup [Cq2], .tup [Cq3, Cq4], Cq7, Cq10, .tup [], .tup [Cq11], .tup [Cq12], .tup [Cq13, Cq14], Cq17, .tup [Cq3], .tup [Cq5], .tup [Cq18, Cq8], Cq21, Cq25, .tup [Cq13, Cq2], Cq26, Cq29, Cq32, .tup [Cq22, Cq12], Cq41, Cq44, .tup [Cq8], .tup [Cq3, Cq20], .tup [Cq5, Cq24], .tup [Cq13], .tup [Cq15], .tup [Cq28], .tup [Cq13, Cq31]]
def Cq53 : D := .lst [.int 5, .int 10, .int 11, .int 12, .int 13]
def Cq54 : D := .lst [.int 5, .int 0, .int 15, .int 16, .int 17]
def Cq55 : D := .lst [.int 10, .int 11, .int 22, .int 23, .int 24]
def Cq56 : D := .lst [.int 5, .int 25, .int 26, .int 27, .int 28]
def Cq57 : D := .lst [Cq34, Cq35, Cq36, Cq37, Cq46, Cq47, Cq48, Cq49, Cq53, Cq54, Cq55, Cq56]
def Cq58 : D := .dct [(.tup [Cq0], .int 0), (.tup [Cq2], .int 1), (.tup [Cq3, Cq4], .int 2), (Cq7, .int 3), (Cq10, .int 4), (.tup [], .int 5), (.tup [Cq11], .int 6), (.tup [Cq12], .int 7), (.tup [Cq13, Cq14], .int 8), (Cq17, .int 9), (.tup [Cq3], .int 10), (.tup [Cq5], .int 11), (.tup [Cq18, Cq8], .int 12), (Cq21, .int 13), (Cq25, .int 14), (.tup [Cq13, Cq2], .int 15), (Cq26, .int 16), (Cq29, .int 17), (Cq32, .int 18), (.tup [Cq22, Cq12], .int 19), (Cq41, .int 20), (Cq44, .int 21), (.tup [Cq8], .int 22), (.tup [Cq3, Cq20], .int 23), (.tup [Cq5, Cq24], .int 24), (.tup [Cq13], .int 25), (.tup [Cq15], .int 26), (.tup [Cq28], .int 27), (.tup [Cq13, Cq31], .int 28)]
def Cq59 : D := .tup [Cq3, Cq4, Cq43]
def Cq60 : D := .tup [.int 0, .int 3, .int 1]
def Cq61 : D := .tup [Cq3, Cq11, Cq60, Cq20]
def Cq62 : D := .tup [.int 1, .int 3, .int 1]
def Cq63 : D := .tup [Cq5, Cq12, Cq62, Cq24]
def Cq64 : D := .tup [.int 0, .int 4, .int 1]
def Cq65 : D := .tup [Cq13, Cq18, Cq64, Cq8, Cq31]
def Cq66 : D := .tup [Cq13, Cq8, Cq14]
def Cq67 : D := .tup [Cq3, Cq11, Cq15, Cq20, Cq16]
def Cq68 : D := .lst [.tup [Cq0], .tup [Cq2], .tup [Cq3, Cq4], Cq7, Cq10, .tup [], .tup [Cq11], .tup [Cq12], .tup [Cq13, Cq14], Cq17, .tup [Cq3], .tup [Cq5], .tup [Cq18, Cq8], Cq21, Cq25, .tup [Cq13, Cq2], Cq26, Cq29, Cq32, .tup [Cq22, Cq12], Cq41, Cq44, .tup [Cq8], .tup [Cq3, Cq20], .tup [Cq5, Cq24], .tup [Cq13], .tup [Cq15], .tup [Cq28], .tup [Cq13, Cq31], .tup [Cq0, Cq22], .tup [Cq2, Cq40], Cq59, Cq61, Cq63, .tup [Cq3, Cq15], .tup [Cq5, Cq28], Cq65, .tup [Cq3, Cq11], .tup [Cq5, Cq12], Cq66, Cq67]
def Cq69 : D := .lst [.int 5, .int 5, .int 29, .int 30, .int 31]
def Cq70 : D := .lst [.int 10, .int 11, .int 22, .int 32, .int 33]
def Cq71 : D := .lst [.int 5, .int 25, .int 34, .int 35, .int 36]
def Cq72 : D := .lst [.int 5, .int 37, .int 38, .int 39, .int 40]
def Cq73 : D := .lst [Cq34, Cq35, Cq36, Cq37, Cq46, Cq47, Cq48, Cq49, Cq53, Cq54, Cq55, Cq56, Cq69, Cq70, Cq71, Cq72]
def Cq74 : D := .dct [(.tup [Cq0], .int 0), (.tup [Cq2], .int 1), (.tup [Cq3, Cq4], .int 2), (Cq7, .int 3), (Cq10, .int 4), (.tup [], .int 5), (.tup [Cq11], .int 6), (.tup [Cq12], .int 7), (.tup [Cq13, Cq14], .int 8), (Cq17, .int 9), (.tup [Cq3], .int 10), (.tup [Cq5], .int 11), (.tup [Cq18, Cq8], .int 12), (Cq21, .int 13), (Cq25, .int 14), (.tup [Cq13, Cq2], .int 15), (Cq26, .int 16), (Cq29, .int 17), (Cq32, .int 18), (.tup [Cq22, Cq12], .int 19), (Cq41, .int 20), (Cq44, .int 21), (.tup [Cq8], .int 22), (.tup [Cq3, Cq20], .int 23), (.tup [Cq5, Cq24], .int 24), (.tup [Cq13], .int 25), (.tup [Cq15], .int 26), (.tup [Cq28], .int 27), (.tup [Cq13, Cq31], .int 28), (.tup [Cq0, Cq22], .int 29), (.tup [Cq2, Cq40], .int 30), (Cq59, .int 31), (Cq61, .int 32), (Cq63, .int 33), (.tup [Cq3, Cq15], .int 34), (.tup [Cq5, Cq28], .int 35), (Cq65, .int 36), (.tup [Cq3, Cq11], .int 37), (.tup [Cq5, Cq12], .int 38), (Cq66, .int 39), (Cq67, .int 40)]
def Cq75 : D := .tup [Cq13, Cq18, Cq8]
def Cq76 : D := .tup [Cq3, Cq15, Cq19, Cq20]
def Cq77 : D := .tup [Cq22, Cq5, Cq28, Cq23, Cq24]
def Cq78 : D := .tup [Cq0, Cq22, Cq27, Cq5, Cq28, Cq6]
def Cq79 : D := .tup [Cq13, Cq2, Cq40, Cq30, Cq8, Cq31, Cq9]
def Cq80 : D := .tup [Cq22, Cq5, Cq12]
def Cq81 : D := .tup [Cq13, Cq40, Cq8, Cq14]
def Cq82 : D := .tup [Cq3, Cq11, Cq60, Cq42, Cq15, Cq43, Cq20, Cq16]
def Cq83 : D := .lst [.tup [Cq0], .tup [Cq2], .tup [Cq3, Cq4], Cq7, Cq10, .tup [], .tup [Cq11], .tup [Cq12], .tup [Cq13, Cq14], Cq17, .tup [Cq3], .tup [Cq5], .tup [Cq18, Cq8], Cq21, Cq25, .tup [Cq13, Cq2], Cq26, Cq29, Cq32, .tup [Cq22, Cq12], Cq41, Cq44, .tup [Cq8], .tup [Cq3, Cq20], .tup [Cq5, Cq24], .tup [Cq13], .tup [Cq15], .tup [Cq28], .tup [Cq13, Cq31], .tup [Cq0, Cq22], .tup [Cq2, Cq40], Cq59, Cq61, Cq63, .tup [Cq3, Cq15], .tup [Cq5, Cq28], Cq65, .tup [Cq3, Cq11], .tup [Cq5, Cq12], Cq66, Cq67, Cq75, Cq76, Cq77, Cq78, Cq79, Cq80, Cq81, Cq82]
def Cq84 : D := .lst [.int 10, .int 11, .int 41, .int 42, .int 43]
def Cq85 : D := .lst [.int 0, .int 15, .int 16, .int 44, .int 45]
def Cq86 : D := .lst [.int 5, .int 37, .int 46, .int 47, .int 48]
def Cq87 : D := .lst [.int 5, .int 5, .int 37, .int 38, .int 39]
def Cq88 : D := .lst [Cq34, Cq35, Cq36, Cq37, Cq46, Cq47, Cq48, Cq49, Cq53, Cq54, Cq55, Cq56, Cq69, Cq70, Cq71, Cq72, Cq84, Cq85, Cq86, Cq87]
def Cq89 : D := .dct [(.tup [Cq0], .int 0), (.tup [Cq2], .int 1), (.tup [Cq3, Cq4], .int 2), (Cq7, .int 3), (Cq10, .int 4), (.tup [], .int 5), (.tup [Cq11], .int 6), (.tup [Cq12], .int 7), (.tup [Cq13, Cq14], .int 8), (Cq17, .int 9), (.tup [Cq3], .int 10), (.tup [Cq5], .int 11), (.tup [Cq18, Cq8], .int 12), (Cq21, .int 13), (Cq25, .int 14), (.tup [Cq13, Cq2], .int 15), (Cq26, .int 16), (Cq29, .int 17), (Cq32, .int 18), (.tup [Cq22, Cq12], .int 19), (Cq41, .int 20), (Cq44, .int 21), (.tup [Cq8], .int 22), (.tup [Cq3, Cq20], .int 23), (.tup [Cq5, Cq24], .int 24), (.tup [Cq13], .int 25), (.tup [Cq15], .int 26), (.tup [Cq28], .int 27), (.tup [Cq13, Cq31], .int 28), (.tup [Cq0, Cq22], .int 29), (.tup [Cq2, Cq40], .int 30), (Cq59, .int 31), (Cq61, .int 32), (Cq63, .int 33), (.tup [Cq3, Cq15], .int 34), (.tup [Cq5, Cq28], .int 35), (Cq65, .int 36), (.tup [Cq3, Cq11], .int 37), (.tup [Cq5, Cq12], .int 38), (Cq66, .int 39), (Cq67, .int 40), (Cq75, .int 41), (Cq76, .int 42), (Cq77, .int 43), (Cq78, .int 44), (Cq79, .int 45), (Cq80, .int 46), (Cq81, .int 47), (Cq82, .int 48)]
def Cq90 : D := .tup [Cq3, Cq60, Cq20]
def Cq91 : D := .tup [Cq5, Cq62, Cq24]
def Cq92 : D := .lst [.tup [Cq0], .tup [Cq2], .tup [Cq3, Cq4], Cq7, Cq10, .tup [], .tup [Cq11], .tup [Cq12], .tup [Cq13, Cq14], Cq17, .tup [Cq3], .tup [Cq5], .tup [Cq18, Cq8], Cq21, Cq25, .tup [Cq13, Cq2], Cq26, Cq29, Cq32, .tup [Cq22, Cq12], Cq41, Cq44, .tup [Cq8], .tup [Cq3, Cq20], .tup [Cq5, Cq24], .tup [Cq13], .tup [Cq15], .tup [Cq28], .tup [Cq13, Cq31], .tup [Cq0, Cq22], .tup [Cq2, Cq40], Cq59, Cq61, Cq63, .tup [Cq3, Cq15], .tup [Cq5, Cq28], Cq65, .tup [Cq3, Cq11], .tup [Cq5, Cq12], Cq66, Cq67, Cq75, Cq76, Cq77, Cq78, Cq79, Cq80, Cq81, Cq82, .tup [Cq22], .tup [Cq40], .tup [Cq43], Cq90, Cq91]
def Cq93 : D := .lst [.int 5, .int 10, .int 11, .int 41, .int 42]
def Cq94 : D := .lst [.int 5, .int 0, .int 15, .int 16, .int 44]
def Cq95 : D := .lst [.int 5, .int 5, .int 49, .int 50, .int 51]
def Cq96 : D := .lst [.int 10, .int 11, .int 22, .int 52, .int 53]
def Cq97 : D := .lst [Cq34, Cq35, Cq36, Cq37, Cq46, Cq47, Cq48, Cq49, Cq53, Cq54, Cq55, Cq56, Cq69, Cq70, Cq71, Cq72, Cq84, Cq85, Cq86, Cq87, Cq93, Cq94, Cq95, Cq96]
def Cq98 : D := .dct [(.tup [Cq0], .int 0), (.tup [Cq2], .int 1), (.tup [Cq3, Cq4], .int 2), (Cq7, .int 3), (Cq10, .int 4), (.tup [], .int 5), (.tup [Cq11], .int 6), (.tup [Cq12], .int 7), (.tup [Cq13, Cq14], .int 8), (Cq17, .int 9), (.tup [Cq3], .int 10), (.tup [Cq5], .int 11), (.tup [Cq18, Cq8], .int 12), (Cq21, .int 13), (Cq25, .int 14), (.tup [Cq13, Cq2], .int 15), (Cq26, .int 16), (Cq29, .int 17), (Cq32, .int 18), (.tup [Cq22, Cq12], .int 19), (Cq41, .int 20), (Cq44, .int 21), (.tup [Cq8], .int 22), (.tup [Cq3, Cq20], .int 23), (.tup [Cq5, Cq24], .int 24), (.tup [Cq13], .int 25), (.tup [Cq15], .int 26), (.tup [Cq28], .int 27), (.tup [Cq13, Cq31], .int 28), (.tup [Cq0, Cq22], .int 29), (.tup [Cq2, Cq40], .int 30), (Cq59, .int 31), (Cq61, .int 32), (Cq63, .int 33), (.tup [Cq3, Cq15], .int 34), (.tup [Cq5, Cq28], .int 35), (Cq65, .int 36), (.tup [Cq3, Cq11], .int 37), (.tup [Cq5, Cq12], .int 38), (Cq66, .int 39), (Cq67, .int 40), (Cq75, .int 41), (Cq76, .int 42), (Cq77, .int 43), (Cq78, .int 44), (Cq79, .int 45), (Cq80, .int 46), (Cq81, .int 47), (Cq82, .int 48), (.tup [Cq22], .int 49), (.tup [Cq40], .int 50), (.tup [Cq43], .int 51), (Cq90, .int 52), (Cq91, .int 53)]
def Cq99 : D := .tup [Cq13, Cq64, Cq31]
def Cq100 : D := .lst [.tup [Cq0], .tup [Cq2], .tup [Cq3, Cq4], Cq7, Cq10, .tup [], .tup [Cq11], .tup [Cq12], .tup [Cq13, Cq14], Cq17, .tup [Cq3], .tup [Cq5], .tup [Cq18, Cq8], Cq21, Cq25, .tup [Cq13, Cq2], Cq26, Cq29, Cq32, .tup [Cq22, Cq12], Cq41, Cq44, .tup [Cq8], .tup [Cq3, Cq20], .tup [Cq5, Cq24], .tup [Cq13], .tup [Cq15], .tup [Cq28], .tup [Cq13, Cq31], .tup [Cq0, Cq22], .tup [Cq2, Cq40], Cq59, Cq61, Cq63, .tup [Cq3, Cq15], .tup [Cq5, Cq28], Cq65, .tup [Cq3, Cq11], .tup [Cq5, Cq12], Cq66, Cq67, Cq75, Cq76, Cq77, Cq78, Cq79, Cq80, Cq81, Cq82, .tup [Cq22], .tup [Cq40], .tup [Cq43], Cq90, Cq91, Cq99]
def Cq101 : D := .lst [.int 5, .int 25, .int 26, .int 27, .int 54]
def Cq102 : D := .lst [.int 5, .int 10, .int 11, .int 22, .int 23]
def Cq103 : D := .lst [.int 5, .int 5, .int 25, .int 26, .int 27]
def Cq104 : D := .lst [.int 5, .int 5, .int 5, .int 49, .int 50]
def Cq105 : D := .lst [Cq34, Cq35, Cq36, Cq37, Cq46, Cq47, Cq48, Cq49, Cq53, Cq54, Cq55, Cq56, Cq69, Cq70, Cq71, Cq72, Cq84, Cq85, Cq86, Cq87, Cq93, Cq94, Cq95, Cq96, Cq101, Cq102, Cq103, Cq104]
def Cq106 : D := .dct [(.tup [Cq0], .int 0), (.tup [Cq2], .int 1), (.tup [Cq3, Cq4], .int 2), (Cq7, .int 3), (Cq10, .int 4), (.tup [], .int 5), (.tup [Cq11], .int 6), (.tup [Cq12], .int 7), (.tup [Cq13, Cq14], .int 8), (Cq17, .int 9), (.tup [Cq3], .int 10), (.tup [Cq5], .int 11), (.tup [Cq18, Cq8], .int 12), (Cq21, .int 13), (Cq25, .int 14), (.tup [Cq13, Cq2], .int 15), (Cq26, .int 16), (Cq29, .int 17), (Cq32, .int 18), (.tup [Cq22, Cq12], .int 19), (Cq41, .int 20), (Cq44, .int 21), (.tup [Cq8], .int 22), (.tup [Cq3, Cq20], .int 23), (.tup [Cq5, Cq24], .int 24), (.tup [Cq13], .int 25), (.tup [Cq15], .int 26), (.tup [Cq28], .int 27), (.tup [Cq13, Cq31], .int 28), (.tup [Cq0, Cq22], .int 29), (.tup [Cq2, Cq40], .int 30), (Cq59, .int 31), (Cq61, .int 32), (Cq63, .int 33), (.tup [Cq3, Cq15], .int 34), (.tup [Cq5, Cq28], .int 35), (Cq65, .int 36), (.tup [Cq3, Cq11], .int 37), (.tup [Cq5, Cq12], .int 38), (Cq66, .int 39), (Cq67, .int 40), (Cq75, .int 41), (Cq76, .int 42), (Cq77, .int 43), (Cq78, .int 44), (Cq79, .int 45), (Cq80, .int 46), (Cq81, .int 47), (Cq82, .int 48), (.tup [Cq22], .int 49), (.tup [Cq40], .int 50), (.tup [Cq43], .int 51), (Cq90, .int 52), (Cq91, .int 53), (Cq99, .int 54)]
def Cq107 : D := .lst [.int 5, .int 10, .int 11, .int 22, .int 52]
def Cq108 : D := .lst [Cq34, Cq35, Cq36, Cq37, Cq46, Cq47, Cq48, Cq49, Cq53, Cq54, Cq55, Cq56, Cq69, Cq70, Cq71, Cq72, Cq84, Cq85, Cq86, Cq87, Cq93, Cq94, Cq95, Cq96, Cq101, Cq102, Cq103, Cq104, Cq107, Cq34, Cq35, Cq36]
def Cq109 : D := .tup [Cq3, Cq60, Cq4, Cq20]
def Cq110 : D := .tup [Cq0, Cq5, Cq62, Cq6, Cq24]
def Cq111 : D := .tup [Cq13, Cq64, Cq14, Cq31]
def Cq112 : D := .tup [Cq3, Cq15, Cq20]
def Cq113 : D := .tup [Cq5, Cq28, Cq24]
def Cq114 : D := .tup [Cq13, Cq40, Cq31]
def Cq115 : D := .lst [.tup [Cq0], .tup [Cq2], .tup [Cq3, Cq4], Cq7, Cq10, .tup [], .tup [Cq11], .tup [Cq12], .tup [Cq13, Cq14], Cq17, .tup [Cq3], .tup [Cq5], .tup [Cq18, Cq8], Cq21, Cq25, .tup [Cq13, Cq2], Cq26, Cq29, Cq32, .tup [Cq22, Cq12], Cq41, Cq44, .tup [Cq8], .tup [Cq3, Cq20], .tup [Cq5, Cq24], .tup [Cq13], .tup [Cq15], .tup [Cq28], .tup [Cq13, Cq31], .tup [Cq0, Cq22], .tup [Cq2, Cq40], Cq59, Cq61, Cq63, .tup [Cq3, Cq15], .tup [Cq5, Cq28], Cq65, .tup [Cq3, Cq11], .tup [Cq5, Cq12], Cq66, Cq67, Cq75, Cq76, Cq77, Cq78, Cq79, Cq80, Cq81, Cq82, .tup [Cq22], .tup [Cq40], .tup [Cq43], Cq90, Cq91, Cq99, .tup [Cq0, Cq5], .tup [Cq2, Cq8], Cq109, Cq110, .tup [Cq11, Cq15], .tup [Cq12, Cq28], Cq111, .tup [Cq13, Cq8], Cq112, Cq113, .tup [Cq22, Cq28], Cq114]
def Cq116 : D := .lst [.int 10, .int 55, .int 56, .int 57, .int 58]
def Cq117 : D := .lst [.int 5, .int 25, .int 59, .int 60, .int 61]
def Cq118 : D := .lst [.int 10, .int 11, .int 62, .int 63, .int 64]
def Cq119 : D := .lst [.int 5, .int 25, .int 26, .int 65, .int 66]
def Cq120 : D := .lst [Cq34, Cq35, Cq36, Cq37, Cq46, Cq47, Cq48, Cq49, Cq53, Cq54, Cq55, Cq56, Cq69, Cq70, Cq71, Cq72, Cq84, Cq85, Cq86, Cq87, Cq93, Cq94, Cq95, Cq96, Cq101, Cq102, Cq103, Cq104, Cq107, Cq34, Cq35, Cq36, Cq116, Cq117, Cq118, Cq119]
def Cq121 : D := .dct [(.tup [Cq0], .int 0), (.tup [Cq2], .int 1), (.tup [Cq3, Cq4], .int 2), (Cq7, .int 3), (Cq10, .int 4), (.tup [], .int 5), (.tup [Cq11], .int 6), (.tup [Cq12], .int 7), (.tup [Cq13, Cq14], .int 8), (Cq17, .int 9), (.tup [Cq3], .int 10), (.tup [Cq5], .int 11), (.tup [Cq18, Cq8], .int 12), (Cq21, .int 13), (Cq25, .int 14), (.tup [Cq13, Cq2], .int 15), (Cq26, .int 16), (Cq29, .int 17), (Cq32, .int 18), (.tup [Cq22, Cq12], .int 19), (Cq41, .int 20), (Cq44, .int 21), (.tup [Cq8], .int 22), (.tup [Cq3, Cq20], .int 23), (.tup [Cq5, Cq24], .int 24), (.tup [Cq13], .int 25), (.tup [Cq15], .int 26), (.tup [Cq28], .int 27), (.tup [Cq13, Cq31], .int 28), (.tup [Cq0, Cq22], .int 29), (.tup [Cq2, Cq40], .int 30), (Cq59, .int 31), (Cq61, .int 32), (Cq63, .int 33), (.tup [Cq3, Cq15], .int 34), (.tup [Cq5, Cq28], .int 35), (Cq65, .int 36), (.tup [Cq3, Cq11], .int 37), (.tup [Cq5, Cq12], .int 38), (Cq66, .int 39), (Cq67, .int 40), (Cq75, .int 41), (Cq76, .int 42), (Cq77, .int 43), (Cq78, .int 44), (Cq79, .int 45), (Cq80, .int 46), (Cq81, .int 47), (Cq82, .int 48), (.tup [Cq22], .int 49), (.tup [Cq40], .int 50), (.tup [Cq43], .int 51), (Cq90, .int 52), (Cq91, .int 53), (Cq99, .int 54), (.tup [Cq0, Cq5], .int 55), (.tup [Cq2, Cq8], .int 56), (Cq109, .int 57), (Cq110, .int 58), (.tup [Cq11, Cq15], .int 59), (.tup [Cq12, Cq28], .int 60), (Cq111, .int 61), (.tup [Cq13, Cq8], .int 62), (Cq112, .int 63), (Cq113, .int 64), (.tup [Cq22, Cq28], .int 65), (Cq114, .int 66)]
def Cq122 : D := .tup [Cq0, Cq22, Cq5]
def Cq123 : D := .tup [Cq2, Cq40, Cq8]
def Cq124 : D := .tup [Cq3, Cq60, Cq4, Cq43, Cq20]
def Cq125 : D := .tup [Cq3, Cq4, Cq20]
def Cq126 : D := .tup [Cq0, Cq5, Cq6, Cq24]
def Cq127 : D := .tup [Cq13, Cq14, Cq31]
def Cq128 : D := .tup [Cq18, Cq40, Cq8]
def Cq129 : D := .tup [Cq3, Cq19, Cq43, Cq20]
def Cq130 : D := .lst [.tup [Cq0], .tup [Cq2], .tup [Cq3, Cq4], Cq7, Cq10, .tup [], .tup [Cq11], .tup [Cq12], .tup [Cq13, Cq14], Cq17, .tup [Cq3], .tup [Cq5], .tup [Cq18, Cq8], Cq21, Cq25, .tup [Cq13, Cq2], Cq26, Cq29, Cq32, .tup [Cq22, Cq12], Cq41, Cq44, .tup [Cq8], .tup [Cq3, Cq20], .tup [Cq5, Cq24], .tup [Cq13], .tup [Cq15], .tup [Cq28], .tup [Cq13, Cq31], .tup [Cq0, Cq22], .tup [Cq2, Cq40], Cq59, Cq61, Cq63, .tup [Cq3, Cq15], .tup [Cq5, Cq28], Cq65, .tup [Cq3, Cq11], .tup [Cq5, Cq12], Cq66, Cq67, Cq75, Cq76, Cq77, Cq78, Cq79, Cq80, Cq81, Cq82, .tup [Cq22], .tup [Cq40], .tup [Cq43], Cq90, Cq91, Cq99, .tup [Cq0, Cq5], .tup [Cq2, Cq8], Cq109, Cq110, .tup [Cq11, Cq15], .tup [Cq12, Cq28], Cq111, .tup [Cq13, Cq8], Cq112, Cq113, .tup [Cq22, Cq28], Cq114, Cq122, Cq123, Cq124, Cq125, Cq126, Cq127, .tup [Cq22, Cq5], Cq128, Cq129]
def Cq131 : D := .lst [.int 5, .int 10, .int 67, .int 68, .int 69]
def Cq132 : D := .lst [.int 10, .int 55, .int 56, .int 70, .int 71]
def Cq133 : D := .lst [.int 5, .int 25, .int 59, .int 60, .int 72]
def Cq134 : D := .lst [.int 5, .int 10, .int 73, .int 74, .int 75]
def Cq135 : D := .lst [Cq34, Cq35, Cq36, Cq37, Cq46, Cq47, Cq48, Cq49, Cq53, Cq54, Cq55, Cq56, Cq69, Cq70, Cq71, Cq72, Cq84, Cq85, Cq86, Cq87, Cq93, Cq94, Cq95, Cq96, Cq101, Cq102, Cq103, Cq104, Cq107, Cq34, Cq35, Cq36, Cq116, Cq117, Cq118, Cq119, Cq131, Cq132, Cq133, Cq134]
def Cq136 : D := .dct [(.tup [Cq0], .int 0), (.tup [Cq2], .int 1), (.tup [Cq3, Cq4], .int 2), (Cq7, .int 3), (Cq10, .int 4), (.tup [], .int 5), (.tup [Cq11], .int 6), (.tup [Cq12], .int 7), (.tup [Cq13, Cq14], .int 8), (Cq17, .int 9), (.tup [Cq3], .int 10), (.tup [Cq5], .int 11), (.tup [Cq18, Cq8], .int 12), (Cq21, .int 13), (Cq25, .int 14), (.tup [Cq13, Cq2], .int 15), (Cq26, .int 16), (Cq29, .int 17), (Cq32, .int 18), (.tup [Cq22, Cq12], .int 19), (Cq41, .int 20), (Cq44, .int 21), (.tup [Cq8], .int 22), (.tup [Cq3, Cq20], .int 23), (.tup [Cq5, Cq24], .int 24), (.tup [Cq13], .int 25), (.tup [Cq15], .int 26), (.tup [Cq28], .int 27), (.tup [Cq13, Cq31], .int 28), (.tup [Cq0, Cq22], .int 29), (.tup [Cq2, Cq40], .int 30), (Cq59, .int 31), (Cq61, .int 32), (Cq63, .int 33), (.tup [Cq3, Cq15], .int 34), (.tup [Cq5, Cq28], .int 35), (Cq65, .int 36), (.tup [Cq3, Cq11], .int 37), (.tup [Cq5, Cq12], .int 38), (Cq66, .int 39), (Cq67, .int 40), (Cq75, .int 41), (Cq76, .int 42), (Cq77, .int 43), (Cq78, .int 44), (Cq79, .int 45), (Cq80, .int 46), (Cq81, .int 47), (Cq82, .int 48), (.tup [Cq22], .int 49), (.tup [Cq40], .int 50), (.tup [Cq43], .int 51), (Cq90, .int 52), (Cq91, .int 53), (Cq99, .int 54), (.tup [Cq0, Cq5], .int 55), (.tup [Cq2, Cq8], .int 56), (Cq109, .int 57), (Cq110, .int 58), (.tup [Cq11, Cq15], .int 59), (.tup [Cq12, Cq28], .int 60), (Cq111, .int 61), (.tup [Cq13, Cq8], .int 62), (Cq112, .int 63), (Cq113, .int 64), (.tup [Cq22, Cq28], .int 65), (Cq114, .int 66), (Cq122, .int 67), (Cq123, .int 68), (Cq124, .int 69), (Cq125, .int 70), (Cq126, .int 71), (Cq127, .int 72), (.tup [Cq22, Cq5], .int 73), (Cq128, .int 74), (Cq129, .int 75)]
def Cq137 : D := .tup [Cq13, Cq2, Cq8]
def Cq138 : D := .tup [Cq3, Cq60, Cq15, Cq4, Cq20]
def Cq139 : D := .tup [Cq0, Cq27, Cq5, Cq62, Cq28, Cq6, Cq24]
def Cq140 : D := .tup [Cq3, Cq4, Cq43, Cq20]
def Cq141 : D := .tup [Cq3, Cq11, Cq60, Cq15, Cq20]
def Cq142 : D := .tup [Cq5, Cq12, Cq62, Cq28, Cq24]
def Cq143 : D := .tup [Cq22, Cq5, Cq28]
def Cq144 : D := .tup [Cq13, Cq18, Cq64, Cq40, Cq8, Cq31]
def Cq145 : D := .lst [.tup [Cq0], .tup [Cq2], .tup [Cq3, Cq4], Cq7, Cq10, .tup [], .tup [Cq11], .tup [Cq12], .tup [Cq13, Cq14], Cq17, .tup [Cq3], .tup [Cq5], .tup [Cq18, Cq8], Cq21, Cq25, .tup [Cq13, Cq2], Cq26, Cq29, Cq32, .tup [Cq22, Cq12], Cq41, Cq44, .tup [Cq8], .tup [Cq3, Cq20], .tup [Cq5, Cq24], .tup [Cq13], .tup [Cq15], .tup [Cq28], .tup [Cq13, Cq31], .tup [Cq0, Cq22], .tup [Cq2, Cq40], Cq59, Cq61, Cq63, .tup [Cq3, Cq15], .tup [Cq5, Cq28], Cq65, .tup [Cq3, Cq11], .tup [Cq5, Cq12], Cq66, Cq67, Cq75, Cq76, Cq77, Cq78, Cq79, Cq80, Cq81, Cq82, .tup [Cq22], .tup [Cq40], .tup [Cq43], Cq90, Cq91, Cq99, .tup [Cq0, Cq5], .tup [Cq2, Cq8], Cq109, Cq110, .tup [Cq11, Cq15], .tup [Cq12, Cq28], Cq111, .tup [Cq13, Cq8], Cq112, Cq113, .tup [Cq22, Cq28], Cq114, Cq122, Cq123, Cq124, Cq125, Cq126, Cq127, .tup [Cq22, Cq5], Cq128, Cq129, Cq137, Cq138, Cq139, Cq140, Cq141, Cq142, Cq143, Cq144]
def Cq146 : D := .lst [.int 10, .int 55, .int 76, .int 77, .int 78]
def Cq147 : D := .lst [.int 5, .int 10, .int 67, .int 68, .int 79]
def Cq148 : D := .lst [.int 10, .int 11, .int 62, .int 80, .int 81]
def Cq149 : D := .lst [.int 5, .int 25, .int 34, .int 82, .int 83]
def Cq150 : D := .lst [Cq34, Cq35, Cq36, Cq37, Cq46, Cq47, Cq48, Cq49, Cq53, Cq54, Cq55, Cq56, Cq69, Cq70, Cq71, Cq72, Cq84, Cq85, Cq86, Cq87, Cq93, Cq94, Cq95, Cq96, Cq101, Cq102, Cq103, Cq104, Cq107, Cq34, Cq35, Cq36, Cq116, Cq117, Cq118, Cq119, Cq131, Cq132, Cq133, Cq134, Cq146, Cq147, Cq148, Cq149]
def Cq151 : D := .dct [(.tup [Cq0], .int 0), (.tup [Cq2], .int 1), (.tup [Cq3, Cq4], .int 2), (Cq7, .int 3), (Cq10, .int 4), (.tup [], .int 5), (.tup [Cq11], .int 6), (.tup [Cq12], .int 7), (.tup [Cq13, Cq14], .int 8), (Cq17, .int 9), (.tup [Cq3], .int 10), (.tup [Cq5], .int 11), (.tup [Cq18, Cq8], .int 12), (Cq21, .int 13), (Cq25, .int 14), (.tup [Cq13, Cq2], .int 15), (Cq26, .int 16), (Cq29, .int 17), (Cq32, .int 18), (.tup [Cq22, Cq12], .int 19), (Cq41, .int 20), (Cq44, .int 21), (.tup [Cq8], .int 22), (.tup [Cq3, Cq20], .int 23), (.tup [Cq5, Cq24], .int 24), (.tup [Cq13], .int 25), (.tup [Cq15], .int 26), (.tup [Cq28], .int 27), (.tup [Cq13, Cq31], .int 28), (.tup [Cq0, Cq22], .int 29), (.tup [Cq2, Cq40], .int 30), (Cq59, .int 31), (Cq61, .int 32), (Cq63, .int 33), (.tup [Cq3, Cq15], .int 34), (.tup [Cq5, Cq28], .int 35), (Cq65, .int 36), (.tup [Cq3, Cq11], .int 37), (.tup [Cq5, Cq12], .int 38), (Cq66, .int 39), (Cq67, .int 40), (Cq75, .int 41), (Cq76, .int 42), (Cq77, .int 43), (Cq78, .int 44), (Cq79, .int 45), (Cq80, .int 46), (Cq81, .int 47), (Cq82, .int 48), (.tup [Cq22], .int 49), (.tup [Cq40], .int 50), (.tup [Cq43], .int 51), (Cq90, .int 52), (Cq91, .int 53), (Cq99, .int 54), (.tup [Cq0, Cq5], .int 55), (.tup [Cq2, Cq8], .int 56), (Cq109, .int 57), (Cq110, .int 58), (.tup [Cq11, Cq15], .int 59), (.tup [Cq12, Cq28], .int 60), (Cq111, .int 61), (.tup [Cq13, Cq8], .int 62), (Cq112, .int 63), (Cq113, .int 64), (.tup [Cq22, Cq28], .int 65), (Cq114, .int 66), (Cq122, .int 67), (Cq123, .int 68), (Cq124, .int 69), (Cq125, .int 70), (Cq126, .int 71), (Cq127, .int 72), (.tup [Cq22, Cq5], .int 73), (Cq128, .int 74), (Cq129, .int 75), (Cq137, .int 76), (Cq138, .int 77), (Cq139, .int 78), (Cq140, .int 79), (Cq141, .int 80), (Cq142, .int 81), (Cq143, .int 82), (Cq144, .int 83)]
def Cq152 : D := .tup [Cq3, Cq11, Cq15]
def Cq153 : D := .tup [Cq5, Cq12, Cq28]
def Cq154 : D := .tup [Cq13, Cq8, Cq14, Cq31]
def Cq155 : D := .tup [Cq13, Cq18, Cq40, Cq8]
def Cq156 : D := .tup [Cq3, Cq15, Cq19, Cq43, Cq20]
def Cq157 : D := .lst [.tup [Cq0], .tup [Cq2], .tup [Cq3, Cq4], Cq7, Cq10, .tup [], .tup [Cq11], .tup [Cq12], .tup [Cq13, Cq14], Cq17, .tup [Cq3], .tup [Cq5], .tup [Cq18, Cq8], Cq21, Cq25, .tup [Cq13, Cq2], Cq26, Cq29, Cq32, .tup [Cq22, Cq12], Cq41, Cq44, .tup [Cq8], .tup [Cq3, Cq20], .tup [Cq5, Cq24], .tup [Cq13], .tup [Cq15], .tup [Cq28], .tup [Cq13, Cq31], .tup [Cq0, Cq22], .tup [Cq2, Cq40], Cq59, Cq61, Cq63, .tup [Cq3, Cq15], .tup [Cq5, Cq28], Cq65, .tup [Cq3, Cq11], .tup [Cq5, Cq12], Cq66, Cq67, Cq75, Cq76, Cq77, Cq78, Cq79, Cq80, Cq81, Cq82, .tup [Cq22], .tup [Cq40], .tup [Cq43], Cq90, Cq91, Cq99, .tup [Cq0, Cq5], .tup [Cq2, Cq8], Cq109, Cq110, .tup [Cq11, Cq15], .tup [Cq12, Cq28], Cq111, .tup [Cq13, Cq8], Cq112, Cq113, .tup [Cq22, Cq28], Cq114, Cq122, Cq123, Cq124, Cq125, Cq126, Cq127, .tup [Cq22, Cq5], Cq128, Cq129, Cq137, Cq138, Cq139, Cq140, Cq141, Cq142, Cq143, Cq144, Cq152, Cq153, Cq154, Cq155, Cq156]
def Cq158 : D := .lst [.int 5, .int 25, .int 84, .int 85, .int 86]
def Cq159 : D := .lst [.int 5, .int 10, .int 73, .int 87, .int 88]
def Cq160 : D := .lst [Cq34, Cq35, Cq36, Cq37, Cq46, Cq47, Cq48, Cq49, Cq53, Cq54, Cq55, Cq56, Cq69, Cq70, Cq71, Cq72, Cq84, Cq85, Cq86, Cq87, Cq93, Cq94, Cq95, Cq96, Cq101, Cq102, Cq103, Cq104, Cq107, Cq34, Cq35, Cq36, Cq116, Cq117, Cq118, Cq119, Cq131, Cq132, Cq133, Cq134, Cq146, Cq147, Cq148, Cq149, Cq85, Cq86, Cq158, Cq159]
def Cq161 : D := .dct [(.tup [Cq0], .int 0), (.tup [Cq2], .int 1), (.tup [Cq3, Cq4], .int 2), (Cq7, .int 3), (Cq10, .int 4), (.tup [], .int 5), (.tup [Cq11], .int 6), (.tup [Cq12], .int 7), (.tup [Cq13, Cq14], .int 8), (Cq17, .int 9), (.tup [Cq3], .int 10), (.tup [Cq5], .int 11), (.tup [Cq18, Cq8], .int 12), (Cq21, .int 13), (Cq25, .int 14), (.tup [Cq13, Cq2], .int 15), (Cq26, .int 16), (Cq29, .int 17), (Cq32, .int 18), (.tup [Cq22, Cq12], .int 19), (Cq41, .int 20), (Cq44, .int 21), (.tup [Cq8], .int 22), (.tup [Cq3, Cq20], .int 23), (.tup [Cq5, Cq24], .int 24), (.tup [Cq13], .int 25), (.tup [Cq15], .int 26), (.tup [Cq28], .int 27), (.tup [Cq13, Cq31], .int 28), (.tup [Cq0, Cq22], .int 29), (.tup [Cq2, Cq40], .int 30), (Cq59, .int 31), (Cq61, .int 32), (Cq63, .int 33), (.tup [Cq3, Cq15], .int 34), (.tup [Cq5, Cq28], .int 35), (Cq65, .int 36), (.tup [Cq3, Cq11], .int 37), (.tup [Cq5, Cq12], .int 38), (Cq66, .int 39), (Cq67, .int 40), (Cq75, .int 41), (Cq76, .int 42), (Cq77, .int 43), (Cq78, .int 44), (Cq79, .int 45), (Cq80, .int 46), (Cq81, .int 47), (Cq82, .int 48), (.tup [Cq22], .int 49), (.tup [Cq40], .int 50), (.tup [Cq43], .int 51), (Cq90, .int 52), (Cq91, .int 53), (Cq99, .int 54), (.tup [Cq0, Cq5], .int 55), (.tup [Cq2, Cq8], .int 56), (Cq109, .int 57), (Cq110, .int 58), (.tup [Cq11, Cq15], .int 59), (.tup [Cq12, Cq28], .int 60), (Cq111, .int 61), (.tup [Cq13, Cq8], .int 62), (Cq112, .int 63), (Cq113, .int 64), (.tup [Cq22, Cq28], .int 65), (Cq114, .int 66), (Cq122, .int 67), (Cq123, .int 68), (Cq124, .int 69), (Cq125, .int 70), (Cq126, .int 71), (Cq127, .int 72), (.tup [Cq22, Cq5], .int 73), (Cq128, .int 74), (Cq129, .int 75), (Cq137, .int 76), (Cq138, .int 77), (Cq139, .int 78), (Cq140, .int 79), (Cq141, .int 80), (Cq142, .int 81), (Cq143, .int 82), (Cq144, .int 83), (Cq152, .int 84), (Cq153, .int 85), (Cq154, .int 86), (Cq155, .int 87), (Cq156, .int 88)]
def Cq162 : D := .tup [Cq0, Cq22, Cq27, Cq5, Cq62, Cq28, Cq6, Cq24]
def Cq163 : D := .lst [.tup [Cq0], .tup [Cq2], .tup [Cq3, Cq4], Cq7, Cq10, .tup [], .tup [Cq11], .tup [Cq12], .tup [Cq13, Cq14], Cq17, .tup [Cq3], .tup [Cq5], .tup [Cq18, Cq8], Cq21, Cq25, .tup [Cq13, Cq2], Cq26, Cq29, Cq32, .tup [Cq22, Cq12], Cq41, Cq44, .tup [Cq8], .tup [Cq3, Cq20], .tup [Cq5, Cq24], .tup [Cq13], .tup [Cq15], .tup [Cq28], .tup [Cq13, Cq31], .tup [Cq0, Cq22], .tup [Cq2, Cq40], Cq59, Cq61, Cq63, .tup [Cq3, Cq15], .tup [Cq5, Cq28], Cq65, .tup [Cq3, Cq11], .tup [Cq5, Cq12], Cq66, Cq67, Cq75, Cq76, Cq77, Cq78, Cq79, Cq80, Cq81, Cq82, .tup [Cq22], .tup [Cq40], .tup [Cq43], Cq90, Cq91, Cq99, .tup [Cq0, Cq5], .tup [Cq2, Cq8], Cq109, Cq110, .tup [Cq11, Cq15], .tup [Cq12, Cq28], Cq111, .tup [Cq13, Cq8], Cq112, Cq113, .tup [Cq22, Cq28], Cq114, Cq122, Cq123, Cq124, Cq125, Cq126, Cq127, .tup [Cq22, Cq5], Cq128, Cq129, Cq137, Cq138, Cq139, Cq140, Cq141, Cq142, Cq143, Cq144, Cq152, Cq153, Cq154, Cq155, Cq156, Cq162]
def Cq164 : D := .lst [.int 10, .int 55, .int 76, .int 77, .int 89]
def Cq165 : D := .lst [.int 5, .int 5, .int 10, .int 11, .int 22]
def Cq166 : D := .lst [.int 5, .int 5, .int 5, .int 25, .int 26]
def Cq167 : D := .lst [.int 5, .int 5, .int 5, .int 5, .int 49]
def Cq168 : D := .lst [Cq34, Cq35, Cq36, Cq37, Cq46, Cq47, Cq48, Cq49, Cq53, Cq54, Cq55, Cq56, Cq69, Cq70, Cq71, Cq72, Cq84, Cq85, Cq86, Cq87, Cq93, Cq94, Cq95, Cq96, Cq101, Cq102, Cq103, Cq104, Cq107, Cq34, Cq35, Cq36, Cq116, Cq117, Cq118, Cq119, Cq131, Cq132, Cq133, Cq134, Cq146, Cq147, Cq148, Cq149, Cq85, Cq86, Cq158, Cq159, Cq164, Cq165, Cq166, Cq167]
def Cq169 : D := .dct [(.tup [Cq0], .int 0), (.tup [Cq2], .int 1), (.tup [Cq3, Cq4], .int 2), (Cq7, .int 3), (Cq10, .int 4), (.tup [], .int 5), (.tup [Cq11], .int 6), (.tup [Cq12], .int 7), (.tup [Cq13, Cq14], .int 8), (Cq17, .int 9), (.tup [Cq3], .int 10), (.tup [Cq5], .int 11), (.tup [Cq18, Cq8], .int 12), (Cq21, .int 13), (Cq25, .int 14), (.tup [Cq13, Cq2], .int 15), (Cq26, .int 16), (Cq29, .int 17), (Cq32, .int 18), (.tup [Cq22, Cq12], .int 19), (Cq41, .int 20), (Cq44, .int 21), (.tup [Cq8], .int 22), (.tup [Cq3, Cq20], .int 23), (.tup [Cq5, Cq24], .int 24), (.tup [Cq13], .int 25), (.tup [Cq15], .int 26), (.tup [Cq28], .int 27), (.tup [Cq13, Cq31], .int 28), (.tup [Cq0, Cq22], .int 29), (.tup [Cq2, Cq40], .int 30), (Cq59, .int 31), (Cq61, .int 32), (Cq63, .int 33), (.tup [Cq3, Cq15], .int 34), (.tup [Cq5, Cq28], .int 35), (Cq65, .int 36), (.tup [Cq3, Cq11], .int 37), (.tup [Cq5, Cq12], .int 38), (Cq66, .int 39), (Cq67, .int 40), (Cq75, .int 41), (Cq76, .int 42), (Cq77, .int 43), (Cq78, .int 44), (Cq79, .int 45), (Cq80, .int 46), (Cq81, .int 47), (Cq82, .int 48), (.tup [Cq22], .int 49), (.tup [Cq40], .int 50), (.tup [Cq43], .int 51), (Cq90, .int 52), (Cq91, .int 53), (Cq99, .int 54), (.tup [Cq0, Cq5], .int 55), (.tup [Cq2, Cq8], .int 56), (Cq109, .int 57), (Cq110, .int 58), (.tup [Cq11, Cq15], .int 59), (.tup [Cq12, Cq28], .int 60), (Cq111, .int 61), (.tup [Cq13, Cq8], .int 62), (Cq112, .int 63), (Cq113, .int 64), (.tup [Cq22, Cq28], .int 65), (Cq114, .int 66), (Cq122, .int 67), (Cq123, .int 68), (Cq124, .int 69), (Cq125, .int 70), (Cq126, .int 71), (Cq127, .int 72), (.tup [Cq22, Cq5], .int 73), (Cq128, .int 74), (Cq129, .int 75), (Cq137, .int 76), (Cq138, .int 77), (Cq139, .int 78), (Cq140, .int 79), (Cq141, .int 80), (Cq142, .int 81), (Cq143, .int 82), (Cq144, .int 83), (Cq152, .int 84), (Cq153, .int 85), (Cq154, .int 86), (Cq155, .int 87), (Cq156, .int 88), (Cq162, .int 89)]
def Cq170 : D := .tup [Cq0, Cq5, Cq28, Cq6]
def Cq171 : D := .tup [Cq13, Cq2, Cq8, Cq31, Cq9]
def Cq172 : D := .lst [.tup [Cq0], .tup [Cq2], .tup [Cq3, Cq4], Cq7, Cq10, .tup [], .tup [Cq11], .tup [Cq12], .tup [Cq13, Cq14], Cq17, .tup [Cq3], .tup [Cq5], .tup [Cq18, Cq8], Cq21, Cq25, .tup [Cq13, Cq2], Cq26, Cq29, Cq32, .tup [Cq22, Cq12], Cq41, Cq44, .tup [Cq8], .tup [Cq3, Cq20], .tup [Cq5, Cq24], .tup [Cq13], .tup [Cq15], .tup [Cq28], .tup [Cq13, Cq31], .tup [Cq0, Cq22], .tup [Cq2, Cq40], Cq59, Cq61, Cq63, .tup [Cq3, Cq15], .tup [Cq5, Cq28], Cq65, .tup [Cq3, Cq11], .tup [Cq5, Cq12], Cq66, Cq67, Cq75, Cq76, Cq77, Cq78, Cq79, Cq80, Cq81, Cq82, .tup [Cq22], .tup [Cq40], .tup [Cq43], Cq90, Cq91, Cq99, .tup [Cq0, Cq5], .tup [Cq2, Cq8], Cq109, Cq110, .tup [Cq11, Cq15], .tup [Cq12, Cq28], Cq111, .tup [Cq13, Cq8], Cq112, Cq113, .tup [Cq22, Cq28], Cq114, Cq122, Cq123, Cq124, Cq125, Cq126, Cq127, .tup [Cq22, Cq5], Cq128, Cq129, Cq137, Cq138, Cq139, Cq140, Cq141, Cq142, Cq143, Cq144, Cq152, Cq153, Cq154, Cq155, Cq156, Cq162, Cq170, Cq171]
def Cq173 : D := .lst [.int 0, .int 15, .int 16, .int 90, .int 91]
def Cq174 : D := .lst [Cq34, Cq35, Cq36, Cq37, Cq46, Cq47, Cq48, Cq49, Cq53, Cq54, Cq55, Cq56, Cq69, Cq70, Cq71, Cq72, Cq84, Cq85, Cq86, Cq87, Cq93, Cq94, Cq95, Cq96, Cq101, Cq102, Cq103, Cq104, Cq107, Cq34, Cq35, Cq36, Cq116, Cq117, Cq118, Cq119, Cq131, Cq132, Cq133, Cq134, Cq146, Cq147, Cq148, Cq149, Cq85, Cq86, Cq158, Cq159, Cq164, Cq165, Cq166, Cq167, Cq96, Cq101, Cq107, Cq173]
def Cq175 : D := .dct [(.tup [Cq0], .int 0), (.tup [Cq2], .int 1), (.tup [Cq3, Cq4], .int 2), (Cq7, .int 3), (Cq10, .int 4), (.tup [], .int 5), (.tup [Cq11], .int 6), (.tup [Cq12], .int 7), (.tup [Cq13, Cq14], .int 8), (Cq17, .int 9), (.tup [Cq3], .int 10), (.tup [Cq5], .int 11), (.tup [Cq18, Cq8], .int 12), (Cq21, .int 13), (Cq25, .int 14), (.tup [Cq13, Cq2], .int 15), (Cq26, .int 16), (Cq29, .int 17), (Cq32, .int 18), (.tup [Cq22, Cq12], .int 19), (Cq41, .int 20), (Cq44, .int 21), (.tup [Cq8], .int 22), (.tup [Cq3, Cq20], .int 23), (.tup [Cq5, Cq24], .int 24), (.tup [Cq13], .int 25), (.tup [Cq15], .int 26), (.tup [Cq28], .int 27), (.tup [Cq13, Cq31], .int 28), (.tup [Cq0, Cq22], .int 29), (.tup [Cq2, Cq40], .int 30), (Cq59, .int 31), (Cq61, .int 32), (Cq63, .int 33), (.tup [Cq3, Cq15], .int 34), (.tup [Cq5, Cq28], .int 35), (Cq65, .int 36), (.tup [Cq3, Cq11], .int 37), (.tup [Cq5, Cq12], .int 38), (Cq66, .int 39), (Cq67, .int 40), (Cq75, .int 41), (Cq76, .int 42), (Cq77, .int 43), (Cq78, .int 44), (Cq79, .int 45), (Cq80, .int 46), (Cq81, .int 47), (Cq82, .int 48), (.tup [Cq22], .int 49), (.tup [Cq40], .int 50), (.tup [Cq43], .int 51), (Cq90, .int 52), (Cq91, .int 53), (Cq99, .int 54), (.tup [Cq0, Cq5], .int 55), (.tup [Cq2, Cq8], .int 56), (Cq109, .int 57), (Cq110, .int 58), (.tup [Cq11, Cq15], .int 59), (.tup [Cq12, Cq28], .int 60), (Cq111, .int 61), (.tup [Cq13, Cq8], .int 62), (Cq112, .int 63), (Cq113, .int 64), (.tup [Cq22, Cq28], .int 65), (Cq114, .int 66), (Cq122, .int 67), (Cq123, .int 68), (Cq124, .int 69), (Cq125, .int 70), (Cq126, .int 71), (Cq127, .int 72), (.tup [Cq22, Cq5], .int 73), (Cq128, .int 74), (Cq129, .int 75), (Cq137, .int 76), (Cq138, .int 77), (Cq139, .int 78), (Cq140, .int 79), (Cq141, .int 80), (Cq142, .int 81), (Cq143, .int 82), (Cq144, .int 83), (Cq152, .int 84), (Cq153, .int 85), (Cq154, .int 86), (Cq155, .int 87), (Cq156, .int 88), (Cq162, .int 89), (Cq170, .int 90), (Cq171, .int 91)]
def Cq176 : D := .tup [Cq11, Cq15, Cq43, Cq16]
def Cq177 : D := .tup [Cq3, Cq60, Cq19, Cq20]
def Cq178 : D := .tup [Cq22, Cq5, Cq62, Cq23, Cq24]
def Cq179 : D := .tup [Cq13, Cq64, Cq2, Cq30, Cq8, Cq31, Cq9]
def Cq180 : D := .lst [.tup [Cq0], .tup [Cq2], .tup [Cq3, Cq4], Cq7, Cq10, .tup [], .tup [Cq11], .tup [Cq12], .tup [Cq13, Cq14], Cq17, .tup [Cq3], .tup [Cq5], .tup [Cq18, Cq8], Cq21, Cq25, .tup [Cq13, Cq2], Cq26, Cq29, Cq32, .tup [Cq22, Cq12], Cq41, Cq44, .tup [Cq8], .tup [Cq3, Cq20], .tup [Cq5, Cq24], .tup [Cq13], .tup [Cq15], .tup [Cq28], .tup [Cq13, Cq31], .tup [Cq0, Cq22], .tup [Cq2, Cq40], Cq59, Cq61, Cq63, .tup [Cq3, Cq15], .tup [Cq5, Cq28], Cq65, .tup [Cq3, Cq11], .tup [Cq5, Cq12], Cq66, Cq67, Cq75, Cq76, Cq77, Cq78, Cq79, Cq80, Cq81, Cq82, .tup [Cq22], .tup [Cq40], .tup [Cq43], Cq90, Cq91, Cq99, .tup [Cq0, Cq5], .tup [Cq2, Cq8], Cq109, Cq110, .tup [Cq11, Cq15], .tup [Cq12, Cq28], Cq111, .tup [Cq13, Cq8], Cq112, Cq113, .tup [Cq22, Cq28], Cq114, Cq122, Cq123, Cq124, Cq125, Cq126, Cq127, .tup [Cq22, Cq5], Cq128, Cq129, Cq137, Cq138, Cq139, Cq140, Cq141, Cq142, Cq143, Cq144, Cq152, Cq153, Cq154, Cq155, Cq156, Cq162, Cq170, Cq171, Cq176, Cq177, Cq178, Cq179]
def Cq181 : D := .lst [.int 5, .int 6, .int 19, .int 20, .int 92]
def Cq182 : D := .lst [.int 10, .int 11, .int 12, .int 93, .int 94]
def Cq183 : D := .lst [.int 0, .int 15, .int 16, .int 17, .int 95]
def Cq184 : D := .lst [.int 5, .int 0, .int 15, .int 16, .int 90]
def Cq185 : D := .lst [Cq34, Cq35, Cq36, Cq37, Cq46, Cq47, Cq48, Cq49, Cq53, Cq54, Cq55, Cq56, Cq69, Cq70, Cq71, Cq72, Cq84, Cq85, Cq86, Cq87, Cq93, Cq94, Cq95, Cq96, Cq101, Cq102, Cq103, Cq104, Cq107, Cq34, Cq35, Cq36, Cq116, Cq117, Cq118, Cq119, Cq131, Cq132, Cq133, Cq134, Cq146, Cq147, Cq148, Cq149, Cq85, Cq86, Cq158, Cq159, Cq164, Cq165, Cq166, Cq167, Cq96, Cq101, Cq107, Cq173, Cq181, Cq182, Cq183, Cq184]
def Cq186 : D := .dct [(.tup [Cq0], .int 0), (.tup [Cq2], .int 1), (.tup [Cq3, Cq4], .int 2), (Cq7, .int 3), (Cq10, .int 4), (.tup [], .int 5), (.tup [Cq11], .int 6), (.tup [Cq12], .int 7), (.tup [Cq13, Cq14], .int 8), (Cq17, .int 9), (.tup [Cq3], .int 10), (.tup [Cq5], .int 11), (.tup [Cq18, Cq8], .int 12), (Cq21, .int 13), (Cq25, .int 14), (.tup [Cq13, Cq2], .int 15), (Cq26, .int 16), (Cq29, .int 17), (Cq32, .int 18), (.tup [Cq22, Cq12], .int 19), (Cq41, .int 20), (Cq44, .int 21), (.tup [Cq8], .int 22), (.tup [Cq3, Cq20], .int 23), (.tup [Cq5, Cq24], .int 24), (.tup [Cq13], .int 25), (.tup [Cq15], .int 26), (.tup [Cq28], .int 27), (.tup [Cq13, Cq31], .int 28), (.tup [Cq0, Cq22], .int 29), (.tup [Cq2, Cq40], .int 30), (Cq59, .int 31), (Cq61, .int 32), (Cq63, .int 33), (.tup [Cq3, Cq15], .int 34), (.tup [Cq5, Cq28], .int 35), (Cq65, .int 36), (.tup [Cq3, Cq11], .int 37), (.tup [Cq5, Cq12], .int 38), (Cq66, .int 39), (Cq67, .int 40), (Cq75, .int 41), (Cq76, .int 42), (Cq77, .int 43), (Cq78, .int 44), (Cq79, .int 45), (Cq80, .int 46), (Cq81, .int 47), (Cq82, .int 48), (.tup [Cq22], .int 49), (.tup [Cq40], .int 50), (.tup [Cq43], .int 51), (Cq90, .int 52), (Cq91, .int 53), (Cq99, .int 54), (.tup [Cq0, Cq5], .int 55), (.tup [Cq2, Cq8], .int 56), (Cq109, .int 57), (Cq110, .int 58), (.tup [Cq11, Cq15], .int 59), (.tup [Cq12, Cq28], .int 60), (Cq111, .int 61), (.tup [Cq13, Cq8], .int 62), (Cq112, .int 63), (Cq113, .int 64), (.tup [Cq22, Cq28], .int 65), (Cq114, .int 66), (Cq122, .int 67), (Cq123, .int 68), (Cq124, .int 69), (Cq125, .int 70), (Cq126, .int 71), (Cq127, .int 72), (.tup [Cq22, Cq5], .int 73), (Cq128, .int 74), (Cq129, .int 75), (Cq137, .int 76), (Cq138, .int 77), (Cq139, .int 78), (Cq140, .int 79), (Cq141, .int 80), (Cq142, .int 81), (Cq143, .int 82), (Cq144, .int 83), (Cq152, .int 84), (Cq153, .int 85), (Cq154, .int 86), (Cq155, .int 87), (Cq156, .int 88), (Cq162, .int 89), (Cq170, .int 90), (Cq171, .int 91), (Cq176, .int 92), (Cq177, .int 93), (Cq178, .int 94), (Cq179, .int 95)]
def Cq187 : D := .tup [Cq3, Cq43, Cq20]
def Cq188 : D := .tup [Cq3, Cq60, Cq15, Cq20]
def Cq189 : D := .tup [Cq5, Cq62, Cq28, Cq24]
def Cq190 : D := .lst [.tup [Cq0], .tup [Cq2], .tup [Cq3, Cq4], Cq7, Cq10, .tup [], .tup [Cq11], .tup [Cq12], .tup [Cq13, Cq14], Cq17, .tup [Cq3], .tup [Cq5], .tup [Cq18, Cq8], Cq21, Cq25, .tup [Cq13, Cq2], Cq26, Cq29, Cq32, .tup [Cq22, Cq12], Cq41, Cq44, .tup [Cq8], .tup [Cq3, Cq20], .tup [Cq5, Cq24], .tup [Cq13], .tup [Cq15], .tup [Cq28], .tup [Cq13, Cq31], .tup [Cq0, Cq22], .tup [Cq2, Cq40], Cq59, Cq61, Cq63, .tup [Cq3, Cq15], .tup [Cq5, Cq28], Cq65, .tup [Cq3, Cq11], .tup [Cq5, Cq12], Cq66, Cq67, Cq75, Cq76, Cq77, Cq78, Cq79, Cq80, Cq81, Cq82, .tup [Cq22], .tup [Cq40], .tup [Cq43], Cq90, Cq91, Cq99, .tup [Cq0, Cq5], .tup [Cq2, Cq8], Cq109, Cq110, .tup [Cq11, Cq15], .tup [Cq12, Cq28], Cq111, .tup [Cq13, Cq8], Cq112, Cq113, .tup [Cq22, Cq28], Cq114, Cq122, Cq123, Cq124, Cq125, Cq126, Cq127, .tup [Cq22, Cq5], Cq128, Cq129, Cq137, Cq138, Cq139, Cq140, Cq141, Cq142, Cq143, Cq144, Cq152, Cq153, Cq154, Cq155, Cq156, Cq162, Cq170, Cq171, Cq176, Cq177, Cq178, Cq179, .tup [Cq40, Cq8], Cq187, Cq188, Cq189]
def Cq191 : D := .lst [.int 5, .int 5, .int 6, .int 19, .int 20]
def Cq192 : D := .lst [.int 5, .int 10, .int 11, .int 12, .int 93]
def Cq193 : D := .lst [.int 5, .int 10, .int 73, .int 96, .int 97]
def Cq194 : D := .lst [.int 10, .int 11, .int 62, .int 98, .int 99]
def Cq195 : D := .lst [Cq34, Cq35, Cq36, Cq37, Cq46, Cq47, Cq48, Cq49, Cq53, Cq54, Cq55, Cq56, Cq69, Cq70, Cq71, Cq72, Cq84, Cq85, Cq86, Cq87, Cq93, Cq94, Cq95, Cq96, Cq101, Cq102, Cq103, Cq104, Cq107, Cq34, Cq35, Cq36, Cq116, Cq117, Cq118, Cq119, Cq131, Cq132, Cq133, Cq134, Cq146, Cq147, Cq148, Cq149, Cq85, Cq86, Cq158, Cq159, Cq164, Cq165, Cq166, Cq167, Cq96, Cq101, Cq107, Cq173, Cq181, Cq182, Cq183, Cq184, Cq191, Cq192, Cq193, Cq194]
def Cq196 : D := .dct [(.tup [Cq0], .int 0), (.tup [Cq2], .int 1), (.tup [Cq3, Cq4], .int 2), (Cq7, .int 3), (Cq10, .int 4), (.tup [], .int 5), (.tup [Cq11], .int 6), (.tup [Cq12], .int 7), (.tup [Cq13, Cq14], .int 8), (Cq17, .int 9), (.tup [Cq3], .int 10), (.tup [Cq5], .int 11), (.tup [Cq18, Cq8], .int 12), (Cq21, .int 13), (Cq25, .int 14), (.tup [Cq13, Cq2], .int 15), (Cq26, .int 16), (Cq29, .int 17), (Cq32, .int 18), (.tup [Cq22, Cq12], .int 19), (Cq41, .int 20), (Cq44, .int 21), (.tup [Cq8], .int 22), (.tup [Cq3, Cq20], .int 23), (.tup [Cq5, Cq24], .int 24), (.tup [Cq13], .int 25), (.tup [Cq15], .int 26), (.tup [Cq28], .int 27), (.tup [Cq13, Cq31], .int 28), (.tup [Cq0, Cq22], .int 29), (.tup [Cq2, Cq40], .int 30), (Cq59, .int 31), (Cq61, .int 32), (Cq63, .int 33), (.tup [Cq3, Cq15], .int 34), (.tup [Cq5, Cq28], .int 35), (Cq65, .int 36), (.tup [Cq3, Cq11], .int 37), (.tup [Cq5, Cq12], .int 38), (Cq66, .int 39), (Cq67, .int 40), (Cq75, .int 41), (Cq76, .int 42), (Cq77, .int 43), (Cq78, .int 44), (Cq79, .int 45), (Cq80, .int 46), (Cq81, .int 47), (Cq82, .int 48), (.tup [Cq22], .int 49), (.tup [Cq40], .int 50), (.tup [Cq43], .int 51), (Cq90, .int 52), (Cq91, .int 53), (Cq99, .int 54), (.tup [Cq0, Cq5], .int 55), (.tup [Cq2, Cq8], .int 56), (Cq109, .int 57), (Cq110, .int 58), (.tup [Cq11, Cq15], .int 59), (.tup [Cq12, Cq28], .int 60), (Cq111, .int 61), (.tup [Cq13, Cq8], .int 62), (Cq112, .int 63), (Cq113, .int 64), (.tup [Cq22, Cq28], .int 65), (Cq114, .int 66), (Cq122, .int 67), (Cq123, .int 68), (Cq124, .int 69), (Cq125, .int 70), (Cq126, .int 71), (Cq127, .int 72), (.tup [Cq22, Cq5], .int 73), (Cq128, .int 74), (Cq129, .int 75), (Cq137, .int 76), (Cq138, .int 77), (Cq139, .int 78), (Cq140, .int 79), (Cq141, .int 80), (Cq142, .int 81), (Cq143, .int 82), (Cq144, .int 83), (Cq152, .int 84), (Cq153, .int 85), (Cq154, .int 86), (Cq155, .int 87), (Cq156, .int 88), (Cq162, .int 89), (Cq170, .int 90), (Cq171, .int 91), (Cq176, .int 92), (Cq177, .int 93), (Cq178, .int 94), (Cq179, .int 95), (.tup [Cq40, Cq8], .int 96), (Cq187, .int 97), (Cq188, .int 98), (Cq189, .int 99)]
def Cq197 : D := .tup [Cq13, Cq64, Cq40, Cq31]
def Cq198 : D := .lst [.tup [Cq0], .tup [Cq2], .tup [Cq3, Cq4], Cq7, Cq10, .tup [], .tup [Cq11], .tup [Cq12], .tup [Cq13, Cq14], Cq17, .tup [Cq3], .tup [Cq5], .tup [Cq18, Cq8], Cq21, Cq25, .tup [Cq13, Cq2], Cq26, Cq29, Cq32, .tup [Cq22, Cq12], Cq41, Cq44, .tup [Cq8], .tup [Cq3, Cq20], .tup [Cq5, Cq24], .tup [Cq13], .tup [Cq15], .tup [Cq28], .tup [Cq13, Cq31], .tup [Cq0, Cq22], .tup [Cq2, Cq40], Cq59, Cq61, Cq63, .tup [Cq3, Cq15], .tup [Cq5, Cq28], Cq65, .tup [Cq3, Cq11], .tup [Cq5, Cq12], Cq66, Cq67, Cq75, Cq76, Cq77, Cq78, Cq79, Cq80, Cq81, Cq82, .tup [Cq22], .tup [Cq40], .tup [Cq43], Cq90, Cq91, Cq99, .tup [Cq0, Cq5], .tup [Cq2, Cq8], Cq109, Cq110, .tup [Cq11, Cq15], .tup [Cq12, Cq28], Cq111, .tup [Cq13, Cq8], Cq112, Cq113, .tup [Cq22, Cq28], Cq114, Cq122, Cq123, Cq124, Cq125, Cq126, Cq127, .tup [Cq22, Cq5], Cq128, Cq129, Cq137, Cq138, Cq139, Cq140, Cq141, Cq142, Cq143, Cq144, Cq152, Cq153, Cq154, Cq155, Cq156, Cq162, Cq170, Cq171, Cq176, Cq177, Cq178, Cq179, .tup [Cq40, Cq8], Cq187, Cq188, Cq189, Cq197]
def Cq199 : D := .lst [.int 5, .int 25, .int 26, .int 65, .int 100]
def Cq200 : D := .lst [.int 5, .int 5, .int 10, .int 73, .int 96]
def Cq201 : D := .lst [.int 5, .int 10, .int 11, .int 62, .int 98]
def Cq202 : D := .lst [Cq34, Cq35, Cq36, Cq37, Cq46, Cq47, Cq48, Cq49, Cq53, Cq54, Cq55, Cq56, Cq69, Cq70, Cq71, Cq72, Cq84, Cq85, Cq86, Cq87, Cq93, Cq94, Cq95, Cq96, Cq101, Cq102, Cq103, Cq104, Cq107, Cq34, Cq35, Cq36, Cq116, Cq117, Cq118, Cq119, Cq131, Cq132, Cq133, Cq134, Cq146, Cq147, Cq148, Cq149, Cq85, Cq86, Cq158, Cq159, Cq164, Cq165, Cq166, Cq167, Cq96, Cq101, Cq107, Cq173, Cq181, Cq182, Cq183, Cq184, Cq191, Cq192, Cq193, Cq194, Cq199, Cq200, Cq201, Cq173]
def Cq203 : D := .dct [(.tup [Cq0], .int 0), (.tup [Cq2], .int 1), (.tup [Cq3, Cq4], .int 2), (Cq7, .int 3), (Cq10, .int 4), (.tup [], .int 5), (.tup [Cq11], .int 6), (.tup [Cq12], .int 7), (.tup [Cq13, Cq14], .int 8), (Cq17, .int 9), (.tup [Cq3], .int 10), (.tup [Cq5], .int 11), (.tup [Cq18, Cq8], .int 12), (Cq21, .int 13), (Cq25, .int 14), (.tup [Cq13, Cq2], .int 15), (Cq26, .int 16), (Cq29, .int 17), (Cq32, .int 18), (.tup [Cq22, Cq12], .int 19), (Cq41, .int 20), (Cq44, .int 21), (.tup [Cq8], .int 22), (.tup [Cq3, Cq20], .int 23), (.tup [Cq5, Cq24], .int 24), (.tup [Cq13], .int 25), (.tup [Cq15], .int 26), (.tup [Cq28], .int 27), (.tup [Cq13, Cq31], .int 28), (.tup [Cq0, Cq22], .int 29), (.tup [Cq2, Cq40], .int 30), (Cq59, .int 31), (Cq61, .int 32), (Cq63, .int 33), (.tup [Cq3, Cq15], .int 34), (.tup [Cq5, Cq28], .int 35), (Cq65, .int 36), (.tup [Cq3, Cq11], .int 37), (.tup [Cq5, Cq12], .int 38), (Cq66, .int 39), (Cq67, .int 40), (Cq75, .int 41), (Cq76, .int 42), (Cq77, .int 43), (Cq78, .int 44), (Cq79, .int 45), (Cq80, .int 46), (Cq81, .int 47), (Cq82, .int 48), (.tup [Cq22], .int 49), (.tup [Cq40], .int 50), (.tup [Cq43], .int 51), (Cq90, .int 52), (Cq91, .int 53), (Cq99, .int 54), (.tup [Cq0, Cq5], .int 55), (.tup [Cq2, Cq8], .int 56), (Cq109, .int 57), (Cq110, .int 58), (.tup [Cq11, Cq15], .int 59), (.tup [Cq12, Cq28], .int 60), (Cq111, .int 61), (.tup [Cq13, Cq8], .int 62), (Cq112, .int 63), (Cq113, .int 64), (.tup [Cq22, Cq28], .int 65), (Cq114, .int 66), (Cq122, .int 67), (Cq123, .int 68), (Cq124, .int 69), (Cq125, .int 70), (Cq126, .int 71), (Cq127, .int 72), (.tup [Cq22, Cq5], .int 73), (Cq128, .int 74), (Cq129, .int 75), (Cq137, .int 76), (Cq138, .int 77), (Cq139, .int 78), (Cq140, .int 79), (Cq141, .int 80), (Cq142, .int 81), (Cq143, .int 82), (Cq144, .int 83), (Cq152, .int 84), (Cq153, .int 85), (Cq154, .int 86), (Cq155, .int 87), (Cq156, .int 88), (Cq162, .int 89), (Cq170, .int 90), (Cq171, .int 91), (Cq176, .int 92), (Cq177, .int 93), (Cq178, .int 94), (Cq179, .int 95), (.tup [Cq40, Cq8], .int 96), (Cq187, .int 97), (Cq188, .int 98), (Cq189, .int 99), (Cq197, .int 100)]
def Cq204 : D := .lst [Cq34, Cq35, Cq36, Cq37, Cq46, Cq47, Cq48, Cq49, Cq53, Cq54, Cq55, Cq56, Cq69, Cq70, Cq71, Cq72, Cq84, Cq85, Cq86, Cq87, Cq93, Cq94, Cq95, Cq96, Cq101, Cq102, Cq103, Cq104, Cq107, Cq34, Cq35, Cq36, Cq116, Cq117, Cq118, Cq119, Cq131, Cq132, Cq133, Cq134, Cq146, Cq147, Cq148, Cq149, Cq85, Cq86, Cq158, Cq159, Cq164, Cq165, Cq166, Cq167, Cq96, Cq101, Cq107, Cq173, Cq181, Cq182, Cq183, Cq184, Cq191, Cq192, Cq193, Cq194, Cq199, Cq200, Cq201, Cq173, Cq181, Cq182, Cq182, Cq183]
def Cq205 : D := .tup [Cq13, Cq8, Cq31]
def Cq206 : D := .tup [Cq13, Cq2, Cq40]
def Cq207 : D := .tup [Cq3, Cq15, Cq4, Cq43]
def Cq208 : D := .tup [Cq22, Cq5, Cq12, Cq62, Cq24]
def Cq209 : D := .lst [.tup [Cq0], .tup [Cq2], .tup [Cq3, Cq4], Cq7, Cq10, .tup [], .tup [Cq11], .tup [Cq12], .tup [Cq13, Cq14], Cq17, .tup [Cq3], .tup [Cq5], .tup [Cq18, Cq8], Cq21, Cq25, .tup [Cq13, Cq2], Cq26, Cq29, Cq32, .tup [Cq22, Cq12], Cq41, Cq44, .tup [Cq8], .tup [Cq3, Cq20], .tup [Cq5, Cq24], .tup [Cq13], .tup [Cq15], .tup [Cq28], .tup [Cq13, Cq31], .tup [Cq0, Cq22], .tup [Cq2, Cq40], Cq59, Cq61, Cq63, .tup [Cq3, Cq15], .tup [Cq5, Cq28], Cq65, .tup [Cq3, Cq11], .tup [Cq5, Cq12], Cq66, Cq67, Cq75, Cq76, Cq77, Cq78, Cq79, Cq80, Cq81, Cq82, .tup [Cq22], .tup [Cq40], .tup [Cq43], Cq90, Cq91, Cq99, .tup [Cq0, Cq5], .tup [Cq2, Cq8], Cq109, Cq110, .tup [Cq11, Cq15], .tup [Cq12, Cq28], Cq111, .tup [Cq13, Cq8], Cq112, Cq113, .tup [Cq22, Cq28], Cq114, Cq122, Cq123, Cq124, Cq125, Cq126, Cq127, .tup [Cq22, Cq5], Cq128, Cq129, Cq137, Cq138, Cq139, Cq140, Cq141, Cq142, Cq143, Cq144, Cq152, Cq153, Cq154, Cq155, Cq156, Cq162, Cq170, Cq171, Cq176, Cq177, Cq178, Cq179, .tup [Cq40, Cq8], Cq187, Cq188, Cq189, Cq197, Cq205, Cq206, Cq207, Cq208]
def Cq210 : D := .lst [.int 5, .int 25, .int 34, .int 35, .int 101]
def Cq211 : D := .lst [.int 5, .int 5, .int 29, .int 102, .int 103]
def Cq212 : D := .lst [.int 10, .int 11, .int 22, .int 32, .int 104]
def Cq213 : D := .lst [Cq34, Cq35, Cq36, Cq37, Cq46, Cq47, Cq48, Cq49, Cq53, Cq54, Cq55, Cq56, Cq69, Cq70, Cq71, Cq72, Cq84, Cq85, Cq86, Cq87, Cq93, Cq94, Cq95, Cq96, Cq101, Cq102, Cq103, Cq104, Cq107, Cq34, Cq35, Cq36, Cq116, Cq117, Cq118, Cq119, Cq131, Cq132, Cq133, Cq134, Cq146, Cq147, Cq148, Cq149, Cq85, Cq86, Cq158, Cq159, Cq164, Cq165, Cq166, Cq167, Cq96, Cq101, Cq107, Cq173, Cq181, Cq182, Cq183, Cq184, Cq191, Cq192, Cq193, Cq194, Cq199, Cq200, Cq201, Cq173, Cq181, Cq182, Cq182, Cq183, Cq192, Cq210, Cq211, Cq212]
def Cq214 : D := .dct [(.tup [Cq0], .int 0), (.tup [Cq2], .int 1), (.tup [Cq3, Cq4], .int 2), (Cq7, .int 3), (Cq10, .int 4), (.tup [], .int 5), (.tup [Cq11], .int 6), (.tup [Cq12], .int 7), (.tup [Cq13, Cq14], .int 8), (Cq17, .int 9), (.tup [Cq3], .int 10), (.tup [Cq5], .int 11), (.tup [Cq18, Cq8], .int 12), (Cq21, .int 13), (Cq25, .int 14), (.tup [Cq13, Cq2], .int 15), (Cq26, .int 16), (Cq29, .int 17), (Cq32, .int 18), (.tup [Cq22, Cq12], .int 19), (Cq41, .int 20), (Cq44, .int 21), (.tup [Cq8], .int 22), (.tup [Cq3, Cq20], .int 23), (.tup [Cq5, Cq24], .int 24), (.tup [Cq13], .int 25), (.tup [Cq15], .int 26), (.tup [Cq28], .int 27), (.tup [Cq13, Cq31], .int 28), (.tup [Cq0, Cq22], .int 29), (.tup [Cq2, Cq40], .int 30), (Cq59, .int 31), (Cq61, .int 32), (Cq63, .int 33), (.tup [Cq3, Cq15], .int 34), (.tup [Cq5, Cq28], .int 35), (Cq65, .int 36), (.tup [Cq3, Cq11], .int 37), (.tup [Cq5, Cq12], .int 38), (Cq66, .int 39), (Cq67, .int 40), (Cq75, .int 41), (Cq76, .int 42), (Cq77, .int 43), (Cq78, .int 44), (Cq79, .int 45), (Cq80, .int 46), (Cq81, .int 47), (Cq82, .int 48), (.tup [Cq22], .int 49), (.tup [Cq40], .int 50), (.tup [Cq43], .int 51), (Cq90, .int 52), (Cq91, .int 53), (Cq99, .int 54), (.tup [Cq0, Cq5], .int 55), (.tup [Cq2, Cq8], .int 56), (Cq109, .int 57), (Cq110, .int 58), (.tup [Cq11, Cq15], .int 59), (.tup [Cq12, Cq28], .int 60), (Cq111, .int 61), (.tup [Cq13, Cq8], .int 62), (Cq112, .int 63), (Cq113, .int 64), (.tup [Cq22, Cq28], .int 65), (Cq114, .int 66), (Cq122, .int 67), (Cq123, .int 68), (Cq124, .int 69), (Cq125, .int 70), (Cq126, .int 71), (Cq127, .int 72), (.tup [Cq22, Cq5], .int 73), (Cq128, .int 74), (Cq129, .int 75), (Cq137, .int 76), (Cq138, .int 77), (Cq139, .int 78), (Cq140, .int 79), (Cq141, .int 80), (Cq142, .int 81), (Cq143, .int 82), (Cq144, .int 83), (Cq152, .int 84), (Cq153, .int 85), (Cq154, .int 86), (Cq155, .int 87), (Cq156, .int 88), (Cq162, .int 89), (Cq170, .int 90), (Cq171, .int 91), (Cq176, .int 92), (Cq177, .int 93), (Cq178, .int 94), (Cq179, .int 95), (.tup [Cq40, Cq8], .int 96), (Cq187, .int 97), (Cq188, .int 98), (Cq189, .int 99), (Cq197, .int 100), (Cq205, .int 101), (Cq206, .int 102), (Cq207, .int 103), (Cq208, .int 104)]
def Cq215 : D := .tup [Cq3, Cq11, Cq15, Cq43, Cq20, Cq16]
def Cq216 : D := .tup [Cq3, Cq60, Cq15, Cq19, Cq20]
def Cq217 : D := .tup [Cq22, Cq5, Cq62, Cq28, Cq23, Cq24]
def Cq218 : D := .tup [Cq13, Cq64, Cq2, Cq40, Cq30, Cq8, Cq31, Cq9]
def Cq219 : D := .lst [.tup [Cq0], .tup [Cq2], .tup [Cq3, Cq4], Cq7, Cq10, .tup [], .tup [Cq11], .tup [Cq12], .tup [Cq13, Cq14], Cq17, .tup [Cq3], .tup [Cq5], .tup [Cq18, Cq8], Cq21, Cq25, .tup [Cq13, Cq2], Cq26, Cq29, Cq32, .tup [Cq22, Cq12], Cq41, Cq44, .tup [Cq8], .tup [Cq3, Cq20], .tup [Cq5, Cq24], .tup [Cq13], .tup [Cq15], .tup [Cq28], .tup [Cq13, Cq31], .tup [Cq0, Cq22], .tup [Cq2, Cq40], Cq59, Cq61, Cq63, .tup [Cq3, Cq15], .tup [Cq5, Cq28], Cq65, .tup [Cq3, Cq11], .tup [Cq5, Cq12], Cq66, Cq67, Cq75, Cq76, Cq77, Cq78, Cq79, Cq80, Cq81, Cq82, .tup [Cq22], .tup [Cq40], .tup [Cq43], Cq90, Cq91, Cq99, .tup [Cq0, Cq5], .tup [Cq2, Cq8], Cq109, Cq110, .tup [Cq11, Cq15], .tup [Cq12, Cq28], Cq111, .tup [Cq13, Cq8], Cq112, Cq113, .tup [Cq22, Cq28], Cq114, Cq122, Cq123, Cq124, Cq125, Cq126, Cq127, .tup [Cq22, Cq5], Cq128, Cq129, Cq137, Cq138, Cq139, Cq140, Cq141, Cq142, Cq143, Cq144, Cq152, Cq153, Cq154, Cq155, Cq156, Cq162, Cq170, Cq171, Cq176, Cq177, Cq178, Cq179, .tup [Cq40, Cq8], Cq187, Cq188, Cq189, Cq197, Cq205, Cq206, Cq207, Cq208, Cq215, Cq216, Cq217, Cq218]
def Cq220 : D := .lst [.int 5, .int 37, .int 46, .int 47, .int 105]
def Cq221 : D := .lst [.int 10, .int 11, .int 41, .int 106, .int 107]
def Cq222 : D := .lst [.int 0, .int 15, .int 16, .int 44, .int 108]
def Cq223 : D := .lst [Cq34, Cq35, Cq36, Cq37, Cq46, Cq47, Cq48, Cq49, Cq53, Cq54, Cq55, Cq56, Cq69, Cq70, Cq71, Cq72, Cq84, Cq85, Cq86, Cq87, Cq93, Cq94, Cq95, Cq96, Cq101, Cq102, Cq103, Cq104, Cq107, Cq34, Cq35, Cq36, Cq116, Cq117, Cq118, Cq119, Cq131, Cq132, Cq133, Cq134, Cq146, Cq147, Cq148, Cq149, Cq85, Cq86, Cq158, Cq159, Cq164, Cq165, Cq166, Cq167, Cq96, Cq101, Cq107, Cq173, Cq181, Cq182, Cq183, Cq184, Cq191, Cq192, Cq193, Cq194, Cq199, Cq200, Cq201, Cq173, Cq181, Cq182, Cq182, Cq183, Cq192, Cq210, Cq211, Cq212, Cq220, Cq221, Cq222, Cq182]
def Cq224 : D := .dct [(.tup [Cq0], .int 0), (.tup [Cq2], .int 1), (.tup [Cq3, Cq4], .int 2), (Cq7, .int 3), (Cq10, .int 4), (.tup [], .int 5), (.tup [Cq11], .int 6), (.tup [Cq12], .int 7), (.tup [Cq13, Cq14], .int 8), (Cq17, .int 9), (.tup [Cq3], .int 10), (.tup [Cq5], .int 11), (.tup [Cq18, Cq8], .int 12), (Cq21, .int 13), (Cq25, .int 14), (.tup [Cq13, Cq2], .int 15), (Cq26, .int 16), (Cq29, .int 17), (Cq32, .int 18), (.tup [Cq22, Cq12], .int 19), (Cq41, .int 20), (Cq44, .int 21), (.tup [Cq8], .int 22), (.tup [Cq3, Cq20], .int 23), (.tup [Cq5, Cq24], .int 24), (.tup [Cq13], .int 25), (.tup [Cq15], .int 26), (.tup [Cq28], .int 27), (.tup [Cq13, Cq31], .int 28), (.tup [Cq0, Cq22], .int 29), (.tup [Cq2, Cq40], .int 30), (Cq59, .int 31), (Cq61, .int 32), (Cq63, .int 33), (.tup [Cq3, Cq15], .int 34), (.tup [Cq5, Cq28], .int 35), (Cq65, .int 36), (.tup [Cq3, Cq11], .int 37), (.tup [Cq5, Cq12], .int 38), (Cq66, .int 39), (Cq67, .int 40), (Cq75, .int 41), (Cq76, .int 42), (Cq77, .int 43), (Cq78, .int 44), (Cq79, .int 45), (Cq80, .int 46), (Cq81, .int 47), (Cq82, .int 48), (.tup [Cq22], .int 49), (.tup [Cq40], .int 50), (.tup [Cq43], .int 51), (Cq90, .int 52), (Cq91, .int 53), (Cq99, .int 54), (.tup [Cq0, Cq5], .int 55), (.tup [Cq2, Cq8], .int 56), (Cq109, .int 57), (Cq110, .int 58), (.tup [Cq11, Cq15], .int 59), (.tup [Cq12, Cq28], .int 60), (Cq111, .int 61), (.tup [Cq13, Cq8], .int 62), (Cq112, .int 63), (Cq113, .int 64), (.tup [Cq22, Cq28], .int 65), (Cq114, .int 66), (Cq122, .int 67), (Cq123, .int 68), (Cq124, .int 69), (Cq125, .int 70), (Cq126, .int 71), (Cq127, .int 72), (.tup [Cq22, Cq5], .int 73), (Cq128, .int 74), (Cq129, .int 75), (Cq137, .int 76), (Cq138, .int 77), (Cq139, .int 78), (Cq140, .int 79), (Cq141, .int 80), (Cq142, .int 81), (Cq143, .int 82), (Cq144, .int 83), (Cq152, .int 84), (Cq153, .int 85), (Cq154, .int 86), (Cq155, .int 87), (Cq156, .int 88), (Cq162, .int 89), (Cq170, .int 90), (Cq171, .int 91), (Cq176, .int 92), (Cq177, .int 93), (Cq178, .int 94), (Cq179, .int 95), (.tup [Cq40, Cq8], .int 96), (Cq187, .int 97), (Cq188, .int 98), (Cq189, .int 99), (Cq197, .int 100), (Cq205, .int 101), (Cq206, .int 102), (Cq207, .int 103), (Cq208, .int 104), (Cq215, .int 105), (Cq216, .int 106), (Cq217, .int 107), (Cq218, .int 108)]
def Cq225 : D := .tup [Cq0, Cq5, Cq62, Cq28, Cq6, Cq24]
def Cq226 : D := .tup [Cq22, Cq12, Cq28]
def Cq227 : D := .tup [Cq13, Cq64, Cq40, Cq14, Cq31]
def Cq228 : D := .tup [Cq13, Cq40, Cq8, Cq31]
def Cq229 : D := .tup [Cq13, Cq2, Cq40, Cq8]
def Cq230 : D := .tup [Cq3, Cq60, Cq15, Cq4, Cq43, Cq20]
def Cq231 : D := .lst [.tup [Cq0], .tup [Cq2], .tup [Cq3, Cq4], Cq7, Cq10, .tup [], .tup [Cq11], .tup [Cq12], .tup [Cq13, Cq14], Cq17, .tup [Cq3], .tup [Cq5], .tup [Cq18, Cq8], Cq21, Cq25, .tup [Cq13, Cq2], Cq26, Cq29, Cq32, .tup [Cq22, Cq12], Cq41, Cq44, .tup [Cq8], .tup [Cq3, Cq20], .tup [Cq5, Cq24], .tup [Cq13], .tup [Cq15], .tup [Cq28], .tup [Cq13, Cq31], .tup [Cq0, Cq22], .tup [Cq2, Cq40], Cq59, Cq61, Cq63, .tup [Cq3, Cq15], .tup [Cq5, Cq28], Cq65, .tup [Cq3, Cq11], .tup [Cq5, Cq12], Cq66, Cq67, Cq75, Cq76, Cq77, Cq78, Cq79, Cq80, Cq81, Cq82, .tup [Cq22], .tup [Cq40], .tup [Cq43], Cq90, Cq91, Cq99, .tup [Cq0, Cq5], .tup [Cq2, Cq8], Cq109, Cq110, .tup [Cq11, Cq15], .tup [Cq12, Cq28], Cq111, .tup [Cq13, Cq8], Cq112, Cq113, .tup [Cq22, Cq28], Cq114, Cq122, Cq123, Cq124, Cq125, Cq126, Cq127, .tup [Cq22, Cq5], Cq128, Cq129, Cq137, Cq138, Cq139, Cq140, Cq141, Cq142, Cq143, Cq144, Cq152, Cq153, Cq154, Cq155, Cq156, Cq162, Cq170, Cq171, Cq176, Cq177, Cq178, Cq179, .tup [Cq40, Cq8], Cq187, Cq188, Cq189, Cq197, Cq205, Cq206, Cq207, Cq208, Cq215, Cq216, Cq217, Cq218, Cq225, Cq226, Cq227, Cq228, Cq229, Cq230]
def Cq232 : D := .lst [.int 10, .int 55, .int 76, .int 77, .int 109]
def Cq233 : D := .lst [.int 5, .int 25, .int 59, .int 110, .int 111]
def Cq234 : D := .lst [.int 5, .int 25, .int 34, .int 82, .int 112]
def Cq235 : D := .lst [.int 5, .int 10, .int 67, .int 113, .int 114]
def Cq236 : D := .lst [Cq34, Cq35, Cq36, Cq37, Cq46, Cq47, Cq48, Cq49, Cq53, Cq54, Cq55, Cq56, Cq69, Cq70, Cq71, Cq72, Cq84, Cq85, Cq86, Cq87, Cq93, Cq94, Cq95, Cq96, Cq101, Cq102, Cq103, Cq104, Cq107, Cq34, Cq35, Cq36, Cq116, Cq117, Cq118, Cq119, Cq131, Cq132, Cq133, Cq134, Cq146, Cq147, Cq148, Cq149, Cq85, Cq86, Cq158, Cq159, Cq164, Cq165, Cq166, Cq167, Cq96, Cq101, Cq107, Cq173, Cq181, Cq182, Cq183, Cq184, Cq191, Cq192, Cq193, Cq194, Cq199, Cq200, Cq201, Cq173, Cq181, Cq182, Cq182, Cq183, Cq192, Cq210, Cq211, Cq212, Cq220, Cq221, Cq222, Cq182, Cq232, Cq233, Cq234, Cq235]
def Cq237 : D := .dct [(.tup [Cq0], .int 0), (.tup [Cq2], .int 1), (.tup [Cq3, Cq4], .int 2), (Cq7, .int 3), (Cq10, .int 4), (.tup [], .int 5), (.tup [Cq11], .int 6), (.tup [Cq12], .int 7), (.tup [Cq13, Cq14], .int 8), (Cq17, .int 9), (.tup [Cq3], .int 10), (.tup [Cq5], .int 11), (.tup [Cq18, Cq8], .int 12), (Cq21, .int 13), (Cq25, .int 14), (.tup [Cq13, Cq2], .int 15), (Cq26, .int 16), (Cq29, .int 17), (Cq32, .int 18), (.tup [Cq22, Cq12], .int 19), (Cq41, .int 20), (Cq44, .int 21), (.tup [Cq8], .int 22), (.tup [Cq3, Cq20], .int 23), (.tup [Cq5, Cq24], .int 24), (.tup [Cq13], .int 25), (.tup [Cq15], .int 26), (.tup [Cq28], .int 27), (.tup [Cq13, Cq31], .int 28), (.tup [Cq0, Cq22], .int 29), (.tup [Cq2, Cq40], .int 30), (Cq59, .int 31), (Cq61, .int 32), (Cq63, .int 33), (.tup [Cq3, Cq15], .int 34), (.tup [Cq5, Cq28], .int 35), (Cq65, .int 36), (.tup [Cq3, Cq11], .int 37), (.tup [Cq5, Cq12], .int 38), (Cq66, .int 39), (Cq67, .int 40), (Cq75, .int 41), (Cq76, .int 42), (Cq77, .int 43), (Cq78, .int 44), (Cq79, .int 45), (Cq80, .int 46), (Cq81, .int 47), (Cq82, .int 48), (.tup [Cq22], .int 49), (.tup [Cq40], .int 50), (.tup [Cq43], .int 51), (Cq90, .int 52), (Cq91, .int 53), (Cq99, .int 54), (.tup [Cq0, Cq5], .int 55), (.tup [Cq2, Cq8], .int 56), (Cq109, .int 57), (Cq110, .int 58), (.tup [Cq11, Cq15], .int 59), (.tup [Cq12, Cq28], .int 60), (Cq111, .int 61), (.tup [Cq13, Cq8], .int 62), (Cq112, .int 63), (Cq113, .int 64), (.tup [Cq22, Cq28], .int 65), (Cq114, .int 66), (Cq122, .int 67), (Cq123, .int 68), (Cq124, .int 69), (Cq125, .int 70), (Cq126, .int 71), (Cq127, .int 72), (.tup [Cq22, Cq5], .int 73), (Cq128, .int 74), (Cq129, .int 75), (Cq137, .int 76), (Cq138, .int 77), (Cq139, .int 78), (Cq140, .int 79), (Cq141, .int 80), (Cq142, .int 81), (Cq143, .int 82), (Cq144, .int 83), (Cq152, .int 84), (Cq153, .int 85), (Cq154, .int 86), (Cq155, .int 87), (Cq156, .int 88), (Cq162, .int 89), (Cq170, .int 90), (Cq171, .int 91), (Cq176, .int 92), (Cq177, .int 93), (Cq178, .int 94), (Cq179, .int 95), (.tup [Cq40, Cq8], .int 96), (Cq187, .int 97), (Cq188, .int 98), (Cq189, .int 99), (Cq197, .int 100), (Cq205, .int 101), (Cq206, .int 102), (Cq207, .int 103), (Cq208, .int 104), (Cq215, .int 105), (Cq216, .int 106), (Cq217, .int 107), (Cq218, .int 108), (Cq225, .int 109), (Cq226, .int 110), (Cq227, .int 111), (Cq228, .int 112), (Cq229, .int 113), (Cq230, .int 114)]
def Cq238 : D := .tup [Cq3, Cq15, Cq4, Cq20]
def Cq239 : D := .tup [Cq0, Cq5, Cq28, Cq6, Cq24]
def Cq240 : D := .tup [Cq13, Cq40, Cq14, Cq31]
def Cq241 : D := .tup [Cq3, Cq60, Cq19, Cq43, Cq20]
def Cq242 : D := .tup [Cq3, Cq15, Cq4, Cq43, Cq20]
def Cq243 : D := .lst [.tup [Cq0], .tup [Cq2], .tup [Cq3, Cq4], Cq7, Cq10, .tup [], .tup [Cq11], .tup [Cq12], .tup [Cq13, Cq14], Cq17, .tup [Cq3], .tup [Cq5], .tup [Cq18, Cq8], Cq21, Cq25, .tup [Cq13, Cq2], Cq26, Cq29, Cq32, .tup [Cq22, Cq12], Cq41, Cq44, .tup [Cq8], .tup [Cq3, Cq20], .tup [Cq5, Cq24], .tup [Cq13], .tup [Cq15], .tup [Cq28], .tup [Cq13, Cq31], .tup [Cq0, Cq22], .tup [Cq2, Cq40], Cq59, Cq61, Cq63, .tup [Cq3, Cq15], .tup [Cq5, Cq28], Cq65, .tup [Cq3, Cq11], .tup [Cq5, Cq12], Cq66, Cq67, Cq75, Cq76, Cq77, Cq78, Cq79, Cq80, Cq81, Cq82, .tup [Cq22], .tup [Cq40], .tup [Cq43], Cq90, Cq91, Cq99, .tup [Cq0, Cq5], .tup [Cq2, Cq8], Cq109, Cq110, .tup [Cq11, Cq15], .tup [Cq12, Cq28], Cq111, .tup [Cq13, Cq8], Cq112, Cq113, .tup [Cq22, Cq28], Cq114, Cq122, Cq123, Cq124, Cq125, Cq126, Cq127, .tup [Cq22, Cq5], Cq128, Cq129, Cq137, Cq138, Cq139, Cq140, Cq141, Cq142, Cq143, Cq144, Cq152, Cq153, Cq154, Cq155, Cq156, Cq162, Cq170, Cq171, Cq176, Cq177, Cq178, Cq179, .tup [Cq40, Cq8], Cq187, Cq188, Cq189, Cq197, Cq205, Cq206, Cq207, Cq208, Cq215, Cq216, Cq217, Cq218, Cq225, Cq226, Cq227, Cq228, Cq229, Cq230, Cq238, Cq239, Cq240, Cq241, Cq242]
def Cq244 : D := .lst [.int 10, .int 55, .int 76, .int 115, .int 116]
def Cq245 : D := .lst [.int 5, .int 25, .int 59, .int 110, .int 117]
def Cq246 : D := .lst [.int 5, .int 10, .int 73, .int 74, .int 118]
def Cq247 : D := .lst [.int 5, .int 10, .int 67, .int 113, .int 119]
def Cq248 : D := .lst [Cq34, Cq35, Cq36, Cq37, Cq46, Cq47, Cq48, Cq49, Cq53, Cq54, Cq55, Cq56, Cq69, Cq70, Cq71, Cq72, Cq84, Cq85, Cq86, Cq87, Cq93, Cq94, Cq95, Cq96, Cq101, Cq102, Cq103, Cq104, Cq107, Cq34, Cq35, Cq36, Cq116, Cq117, Cq118, Cq119, Cq131, Cq132, Cq133, Cq134, Cq146, Cq147, Cq148, Cq149, Cq85, Cq86, Cq158, Cq159, Cq164, Cq165, Cq166, Cq167, Cq96, Cq101, Cq107, Cq173, Cq181, Cq182, Cq183, Cq184, Cq191, Cq192, Cq193, Cq194, Cq199, Cq200, Cq201, Cq173, Cq181, Cq182, Cq182, Cq183, Cq192, Cq210, Cq211, Cq212, Cq220, Cq221, Cq222, Cq182, Cq232, Cq233, Cq234, Cq235, Cq244, Cq245, Cq246, Cq247]
def Cq249 : D := .dct [(.tup [Cq0], .int 0), (.tup [Cq2], .int 1), (.tup [Cq3, Cq4], .int 2), (Cq7, .int 3), (Cq10, .int 4), (.tup [], .int 5), (.tup [Cq11], .int 6), (.tup [Cq12], .int 7), (.tup [Cq13, Cq14], .int 8), (Cq17, .int 9), (.tup [Cq3], .int 10), (.tup [Cq5], .int 11), (.tup [Cq18, Cq8], .int 12), (Cq21, .int 13), (Cq25, .int 14), (.tup [Cq13, Cq2], .int 15), (Cq26, .int 16), (Cq29, .int 17), (Cq32, .int 18), (.tup [Cq22, Cq12], .int 19), (Cq41, .int 20), (Cq44, .int 21), (.tup [Cq8], .int 22), (.tup [Cq3, Cq20], .int 23), (.tup [Cq5, Cq24], .int 24), (.tup [Cq13], .int 25), (.tup [Cq15], .int 26), (.tup [Cq28], .int 27), (.tup [Cq13, Cq31], .int 28), (.tup [Cq0, Cq22], .int 29), (.tup [Cq2, Cq40], .int 30), (Cq59, .int 31), (Cq61, .int 32), (Cq63, .int 33), (.tup [Cq3, Cq15], .int 34), (.tup [Cq5, Cq28], .int 35), (Cq65, .int 36), (.tup [Cq3, Cq11], .int 37), (.tup [Cq5, Cq12], .int 38), (Cq66, .int 39), (Cq67, .int 40), (Cq75, .int 41), (Cq76, .int 42), (Cq77, .int 43), (Cq78, .int 44), (Cq79, .int 45), (Cq80, .int 46), (Cq81, .int 47), (Cq82, .int 48), (.tup [Cq22], .int 49), (.tup [Cq40], .int 50), (.tup [Cq43], .int 51), (Cq90, .int 52), (Cq91, .int 53), (Cq99, .int 54), (.tup [Cq0, Cq5], .int 55), (.tup [Cq2, Cq8], .int 56), (Cq109, .int 57), (Cq110, .int 58), (.tup [Cq11, Cq15], .int 59), (.tup [Cq12, Cq28], .int 60), (Cq111, .int 61), (.tup [Cq13, Cq8], .int 62), (Cq112, .int 63), (Cq113, .int 64), (.tup [Cq22, Cq28], .int 65), (Cq114, .int 66), (Cq122, .int 67), (Cq123, .int 68), (Cq124, .int 69), (Cq125, .int 70), (Cq126, .int 71), (Cq127, .int 72), (.tup [Cq22, Cq5], .int 73), (Cq128, .int 74), (Cq129, .int 75), (Cq137, .int 76), (Cq138, .int 77), (Cq139, .int 78), (Cq140, .int 79), (Cq141, .int 80), (Cq142, .int 81), (Cq143, .int 82), (Cq144, .int 83), (Cq152, .int 84), (Cq153, .int 85), (Cq154, .int 86), (Cq155, .int 87), (Cq156, .int 88), (Cq162, .int 89), (Cq170, .int 90), (Cq171, .int 91), (Cq176, .int 92), (Cq177, .int 93), (Cq178, .int 94), (Cq179, .int 95), (.tup [Cq40, Cq8], .int 96), (Cq187, .int 97), (Cq188, .int 98), (Cq189, .int 99), (Cq197, .int 100), (Cq205, .int 101), (Cq206, .int 102), (Cq207, .int 103), (Cq208, .int 104), (Cq215, .int 105), (Cq216, .int 106), (Cq217, .int 107), (Cq218, .int 108), (Cq225, .int 109), (Cq226, .int 110), (Cq227, .int 111), (Cq228, .int 112), (Cq229, .int 113), (Cq230, .int 114), (Cq238, .int 115), (Cq239, .int 116), (Cq240, .int 117), (Cq241, .int 118), (Cq242, .int 119)]
def Cq250 : D := .tup [Cq22, Cq5, Cq12, Cq62, Cq28, Cq24]
def Cq251 : D := .lst [.tup [Cq0], .tup [Cq2], .tup [Cq3, Cq4], Cq7, Cq10, .tup [], .tup [Cq11], .tup [Cq12], .tup [Cq13, Cq14], Cq17, .tup [Cq3], .tup [Cq5], .tup [Cq18, Cq8], Cq21, Cq25, .tup [Cq13, Cq2], Cq26, Cq29, Cq32, .tup [Cq22, Cq12], Cq41, Cq44, .tup [Cq8], .tup [Cq3, Cq20], .tup [Cq5, Cq24], .tup [Cq13], .tup [Cq15], .tup [Cq28], .tup [Cq13, Cq31], .tup [Cq0, Cq22], .tup [Cq2, Cq40], Cq59, Cq61, Cq63, .tup [Cq3, Cq15], .tup [Cq5, Cq28], Cq65, .tup [Cq3, Cq11], .tup [Cq5, Cq12], Cq66, Cq67, Cq75, Cq76, Cq77, Cq78, Cq79, Cq80, Cq81, Cq82, .tup [Cq22], .tup [Cq40], .tup [Cq43], Cq90, Cq91, Cq99, .tup [Cq0, Cq5], .tup [Cq2, Cq8], Cq109, Cq110, .tup [Cq11, Cq15], .tup [Cq12, Cq28], Cq111, .tup [Cq13, Cq8], Cq112, Cq113, .tup [Cq22, Cq28], Cq114, Cq122, Cq123, Cq124, Cq125, Cq126, Cq127, .tup [Cq22, Cq5], Cq128, Cq129, Cq137, Cq138, Cq139, Cq140, Cq141, Cq142, Cq143, Cq144, Cq152, Cq153, Cq154, Cq155, Cq156, Cq162, Cq170, Cq171, Cq176, Cq177, Cq178, Cq179, .tup [Cq40, Cq8], Cq187, Cq188, Cq189, Cq197, Cq205, Cq206, Cq207, Cq208, Cq215, Cq216, Cq217, Cq218, Cq225, Cq226, Cq227, Cq228, Cq229, Cq230, Cq238, Cq239, Cq240, Cq241, Cq242, Cq250]
def Cq252 : D := .lst [.int 10, .int 11, .int 62, .int 80, .int 120]
def Cq253 : D := .lst [Cq34, Cq35, Cq36, Cq37, Cq46, Cq47, Cq48, Cq49, Cq53, Cq54, Cq55, Cq56, Cq69, Cq70, Cq71, Cq72, Cq84, Cq85, Cq86, Cq87, Cq93, Cq94, Cq95, Cq96, Cq101, Cq102, Cq103, Cq104, Cq107, Cq34, Cq35, Cq36, Cq116, Cq117, Cq118, Cq119, Cq131, Cq132, Cq133, Cq134, Cq146, Cq147, Cq148, Cq149, Cq85, Cq86, Cq158, Cq159, Cq164, Cq165, Cq166, Cq167, Cq96, Cq101, Cq107, Cq173, Cq181, Cq182, Cq183, Cq184, Cq191, Cq192, Cq193, Cq194, Cq199, Cq200, Cq201, Cq173, Cq181, Cq182, Cq182, Cq183, Cq192, Cq210, Cq211, Cq212, Cq220, Cq221, Cq222, Cq182, Cq232, Cq233, Cq234, Cq235, Cq244, Cq245, Cq246, Cq247, Cq252, Cq222, Cq85, Cq86]
def Cq254 : D := .dct [(.tup [Cq0], .int 0), (.tup [Cq2], .int 1), (.tup [Cq3, Cq4], .int 2), (Cq7, .int 3), (Cq10, .int 4), (.tup [], .int 5), (.tup [Cq11], .int 6), (.tup [Cq12], .int 7), (.tup [Cq13, Cq14], .int 8), (Cq17, .int 9), (.tup [Cq3], .int 10), (.tup [Cq5], .int 11), (.tup [Cq18, Cq8], .int 12), (Cq21, .int 13), (Cq25, .int 14), (.tup [Cq13, Cq2], .int 15), (Cq26, .int 16), (Cq29, .int 17), (Cq32, .int 18), (.tup [Cq22, Cq12], .int 19), (Cq41, .int 20), (Cq44, .int 21), (.tup [Cq8], .int 22), (.tup [Cq3, Cq20], .int 23), (.tup [Cq5, Cq24], .int 24), (.tup [Cq13], .int 25), (.tup [Cq15], .int 26), (.tup [Cq28], .int 27), (.tup [Cq13, Cq31], .int 28), (.tup [Cq0, Cq22], .int 29), (.tup [Cq2, Cq40], .int 30), (Cq59, .int 31), (Cq61, .int 32), (Cq63, .int 33), (.tup [Cq3, Cq15], .int 34), (.tup [Cq5, Cq28], .int 35), (Cq65, .int 36), (.tup [Cq3, Cq11], .int 37), (.tup [Cq5, Cq12], .int 38), (Cq66, .int 39), (Cq67, .int 40), (Cq75, .int 41), (Cq76, .int 42), (Cq77, .int 43), (Cq78, .int 44), (Cq79, .int 45), (Cq80, .int 46), (Cq81, .int 47), (Cq82, .int 48), (.tup [Cq22], .int 49), (.tup [Cq40], .int 50), (.tup [Cq43], .int 51), (Cq90, .int 52), (Cq91, .int 53), (Cq99, .int 54), (.tup [Cq0, Cq5], .int 55), (.tup [Cq2, Cq8], .int 56), (Cq109, .int 57), (Cq110, .int 58), (.tup [Cq11, Cq15], .int 59), (.tup [Cq12, Cq28], .int 60), (Cq111, .int 61), (.tup [Cq13, Cq8], .int 62), (Cq112, .int 63), (Cq113, .int 64), (.tup [Cq22, Cq28], .int 65), (Cq114, .int 66), (Cq122, .int 67), (Cq123, .int 68), (Cq124, .int 69), (Cq125, .int 70), (Cq126, .int 71), (Cq127, .int 72), (.tup [Cq22, Cq5], .int 73), (Cq128, .int 74), (Cq129, .int 75), (Cq137, .int 76), (Cq138, .int 77), (Cq139, .int 78), (Cq140, .int 79), (Cq141, .int 80), (Cq142, .int 81), (Cq143, .int 82), (Cq144, .int 83), (Cq152, .int 84), (Cq153, .int 85), (Cq154, .int 86), (Cq155, .int 87), (Cq156, .int 88), (Cq162, .int 89), (Cq170, .int 90), (Cq171, .int 91), (Cq176, .int 92), (Cq177, .int 93), (Cq178, .int 94), (Cq179, .int 95), (.tup [Cq40, Cq8], .int 96), (Cq187, .int 97), (Cq188, .int 98), (Cq189, .int 99), (Cq197, .int 100), (Cq205, .int 101), (Cq206, .int 102), (Cq207, .int 103), (Cq208, .int 104), (Cq215, .int 105), (Cq216, .int 106), (Cq217, .int 107), (Cq218, .int 108), (Cq225, .int 109), (Cq226, .int 110), (Cq227, .int 111), (Cq228, .int 112), (Cq229, .int 113), (Cq230, .int 114), (Cq238, .int 115), (Cq239, .int 116), (Cq240, .int 117), (Cq241, .int 118), (Cq242, .int 119), (Cq250, .int 120)]
def Cq255 : D := .lst [Cq34, Cq35, Cq36, Cq37, Cq46, Cq47, Cq48, Cq49, Cq53, Cq54, Cq55, Cq56, Cq69, Cq70, Cq71, Cq72, Cq84, Cq85, Cq86, Cq87, Cq93, Cq94, Cq95, Cq96, Cq101, Cq102, Cq103, Cq104, Cq107, Cq34, Cq35, Cq36, Cq116, Cq117, Cq118, Cq119, Cq131, Cq132, Cq133, Cq134, Cq146, Cq147, Cq148, Cq149, Cq85, Cq86, Cq158, Cq159, Cq164, Cq165, Cq166, Cq167, Cq96, Cq101, Cq107, Cq173, Cq181, Cq182, Cq183, Cq184, Cq191, Cq192, Cq193, Cq194, Cq199, Cq200, Cq201, Cq173, Cq181, Cq182, Cq182, Cq183, Cq192, Cq210, Cq211, Cq212, Cq220, Cq221, Cq222, Cq182, Cq232, Cq233, Cq234, Cq235, Cq244, Cq245, Cq246, Cq247, Cq252, Cq222, Cq85, Cq86, Cq94, Cq70, Cq71, Cq86]
def Cq256 : D := .tup [Cq22, Cq5, Cq62, Cq24]
def Cq257 : D := .lst [.tup [Cq0], .tup [Cq2], .tup [Cq3, Cq4], Cq7, Cq10, .tup [], .tup [Cq11], .tup [Cq12], .tup [Cq13, Cq14], Cq17, .tup [Cq3], .tup [Cq5], .tup [Cq18, Cq8], Cq21, Cq25, .tup [Cq13, Cq2], Cq26, Cq29, Cq32, .tup [Cq22, Cq12], Cq41, Cq44, .tup [Cq8], .tup [Cq3, Cq20], .tup [Cq5, Cq24], .tup [Cq13], .tup [Cq15], .tup [Cq28], .tup [Cq13, Cq31], .tup [Cq0, Cq22], .tup [Cq2, Cq40], Cq59, Cq61, Cq63, .tup [Cq3, Cq15], .tup [Cq5, Cq28], Cq65, .tup [Cq3, Cq11], .tup [Cq5, Cq12], Cq66, Cq67, Cq75, Cq76, Cq77, Cq78, Cq79, Cq80, Cq81, Cq82, .tup [Cq22], .tup [Cq40], .tup [Cq43], Cq90, Cq91, Cq99, .tup [Cq0, Cq5], .tup [Cq2, Cq8], Cq109, Cq110, .tup [Cq11, Cq15], .tup [Cq12, Cq28], Cq111, .tup [Cq13, Cq8], Cq112, Cq113, .tup [Cq22, Cq28], Cq114, Cq122, Cq123, Cq124, Cq125, Cq126, Cq127, .tup [Cq22, Cq5], Cq128, Cq129, Cq137, Cq138, Cq139, Cq140, Cq141, Cq142, Cq143, Cq144, Cq152, Cq153, Cq154, Cq155, Cq156, Cq162, Cq170, Cq171, Cq176, Cq177, Cq178, Cq179, .tup [Cq40, Cq8], Cq187, Cq188, Cq189, Cq197, Cq205, Cq206, Cq207, Cq208, Cq215, Cq216, Cq217, Cq218, Cq225, Cq226, Cq227, Cq228, Cq229, Cq230, Cq238, Cq239, Cq240, Cq241, Cq242, Cq250, .tup [Cq13, Cq40], .tup [Cq15, Cq43], Cq256]
def Cq258 : D := .lst [.int 5, .int 5, .int 49, .int 121, .int 122]
def Cq259 : D := .lst [.int 10, .int 11, .int 22, .int 52, .int 123]
def Cq260 : D := .lst [Cq34, Cq35, Cq36, Cq37, Cq46, Cq47, Cq48, Cq49, Cq53, Cq54, Cq55, Cq56, Cq69, Cq70, Cq71, Cq72, Cq84, Cq85, Cq86, Cq87, Cq93, Cq94, Cq95, Cq96, Cq101, Cq102, Cq103, Cq104, Cq107, Cq34, Cq35, Cq36, Cq116, Cq117, Cq118, Cq119, Cq131, Cq132, Cq133, Cq134, Cq146, Cq147, Cq148, Cq149, Cq85, Cq86, Cq158, Cq159, Cq164, Cq165, Cq166, Cq167, Cq96, Cq101, Cq107, Cq173, Cq181, Cq182, Cq183, Cq184, Cq191, Cq192, Cq193, Cq194, Cq199, Cq200, Cq201, Cq173, Cq181, Cq182, Cq182, Cq183, Cq192, Cq210, Cq211, Cq212, Cq220, Cq221, Cq222, Cq182, Cq232, Cq233, Cq234, Cq235, Cq244, Cq245, Cq246, Cq247, Cq252, Cq222, Cq85, Cq86, Cq94, Cq70, Cq71, Cq86, Cq258, Cq259, Cq194, Cq199]
def Cq261 : D := .dct [(.tup [Cq0], .int 0), (.tup [Cq2], .int 1), (.tup [Cq3, Cq4], .int 2), (Cq7, .int 3), (Cq10, .int 4), (.tup [], .int 5), (.tup [Cq11], .int 6), (.tup [Cq12], .int 7), (.tup [Cq13, Cq14], .int 8), (Cq17, .int 9), (.tup [Cq3], .int 10), (.tup [Cq5], .int 11), (.tup [Cq18, Cq8], .int 12), (Cq21, .int 13), (Cq25, .int 14), (.tup [Cq13, Cq2], .int 15), (Cq26, .int 16), (Cq29, .int 17), (Cq32, .int 18), (.tup [Cq22, Cq12], .int 19), (Cq41, .int 20), (Cq44, .int 21), (.tup [Cq8], .int 22), (.tup [Cq3, Cq20], .int 23), (.tup [Cq5, Cq24], .int 24), (.tup [Cq13], .int 25), (.tup [Cq15], .int 26), (.tup [Cq28], .int 27), (.tup [Cq13, Cq31], .int 28), (.tup [Cq0, Cq22], .int 29), (.tup [Cq2, Cq40], .int 30), (Cq59, .int 31), (Cq61, .int 32), (Cq63, .int 33), (.tup [Cq3, Cq15], .int 34), (.tup [Cq5, Cq28], .int 35), (Cq65, .int 36), (.tup [Cq3, Cq11], .int 37), (.tup [Cq5, Cq12], .int 38), (Cq66, .int 39), (Cq67, .int 40), (Cq75, .int 41), (Cq76, .int 42), (Cq77, .int 43), (Cq78, .int 44), (Cq79, .int 45), (Cq80, .int 46), (Cq81, .int 47), (Cq82, .int 48), (.tup [Cq22], .int 49), (.tup [Cq40], .int 50), (.tup [Cq43], .int 51), (Cq90, .int 52), (Cq91, .int 53), (Cq99, .int 54), (.tup [Cq0, Cq5], .int 55), (.tup [Cq2, Cq8], .int 56), (Cq109, .int 57), (Cq110, .int 58), (.tup [Cq11, Cq15], .int 59), (.tup [Cq12, Cq28], .int 60), (Cq111, .int 61), (.tup [Cq13, Cq8], .int 62), (Cq112, .int 63), (Cq113, .int 64), (.tup [Cq22, Cq28], .int 65), (Cq114, .int 66), (Cq122, .int 67), (Cq123, .int 68), (Cq124, .int 69), (Cq125, .int 70), (Cq126, .int 71), (Cq127, .int 72), (.tup [Cq22, Cq5], .int 73), (Cq128, .int 74), (Cq129, .int 75), (Cq137, .int 76), (Cq138, .int 77), (Cq139, .int 78), (Cq140, .int 79), (Cq141, .int 80), (Cq142, .int 81), (Cq143, .int 82), (Cq144, .int 83), (Cq152, .int 84), (Cq153, .int 85), (Cq154, .int 86), (Cq155, .int 87), (Cq156, .int 88), (Cq162, .int 89), (Cq170, .int 90), (Cq171, .int 91), (Cq176, .int 92), (Cq177, .int 93), (Cq178, .int 94), (Cq179, .int 95), (.tup [Cq40, Cq8], .int 96), (Cq187, .int 97), (Cq188, .int 98), (Cq189, .int 99), (Cq197, .int 100), (Cq205, .int 101), (Cq206, .int 102), (Cq207, .int 103), (Cq208, .int 104), (Cq215, .int 105), (Cq216, .int 106), (Cq217, .int 107), (Cq218, .int 108), (Cq225, .int 109), (Cq226, .int 110), (Cq227, .int 111), (Cq228, .int 112), (Cq229, .int 113), (Cq230, .int 114), (Cq238, .int 115), (Cq239, .int 116), (Cq240, .int 117), (Cq241, .int 118), (Cq242, .int 119), (Cq250, .int 120), (.tup [Cq13, Cq40], .int 121), (.tup [Cq15, Cq43], .int 122), (Cq256, .int 123)]
def Cq262 : D := .tup [Cq3, Cq60, Cq43, Cq20]
def Cq263 : D := .lst [.tup [Cq0], .tup [Cq2], .tup [Cq3, Cq4], Cq7, Cq10, .tup [], .tup [Cq11], .tup [Cq12], .tup [Cq13, Cq14], Cq17, .tup [Cq3], .tup [Cq5], .tup [Cq18, Cq8], Cq21, Cq25, .tup [Cq13, Cq2], Cq26, Cq29, Cq32, .tup [Cq22, Cq12], Cq41, Cq44, .tup [Cq8], .tup [Cq3, Cq20], .tup [Cq5, Cq24], .tup [Cq13], .tup [Cq15], .tup [Cq28], .tup [Cq13, Cq31], .tup [Cq0, Cq22], .tup [Cq2, Cq40], Cq59, Cq61, Cq63, .tup [Cq3, Cq15], .tup [Cq5, Cq28], Cq65, .tup [Cq3, Cq11], .tup [Cq5, Cq12], Cq66, Cq67, Cq75, Cq76, Cq77, Cq78, Cq79, Cq80, Cq81, Cq82, .tup [Cq22], .tup [Cq40], .tup [Cq43], Cq90, Cq91, Cq99, .tup [Cq0, Cq5], .tup [Cq2, Cq8], Cq109, Cq110, .tup [Cq11, Cq15], .tup [Cq12, Cq28], Cq111, .tup [Cq13, Cq8], Cq112, Cq113, .tup [Cq22, Cq28], Cq114, Cq122, Cq123, Cq124, Cq125, Cq126, Cq127, .tup [Cq22, Cq5], Cq128, Cq129, Cq137, Cq138, Cq139, Cq140, Cq141, Cq142, Cq143, Cq144, Cq152, Cq153, Cq154, Cq155, Cq156, Cq162, Cq170, Cq171, Cq176, Cq177, Cq178, Cq179, .tup [Cq40, Cq8], Cq187, Cq188, Cq189, Cq197, Cq205, Cq206, Cq207, Cq208, Cq215, Cq216, Cq217, Cq218, Cq225, Cq226, Cq227, Cq228, Cq229, Cq230, Cq238, Cq239, Cq240, Cq241, Cq242, Cq250, .tup [Cq13, Cq40], .tup [Cq15, Cq43], Cq256, Cq262]
def Cq264 : D := .lst [.int 5, .int 10, .int 73, .int 96, .int 124]
def Cq265 : D := .lst [Cq34, Cq35, Cq36, Cq37, Cq46, Cq47, Cq48, Cq49, Cq53, Cq54, Cq55, Cq56, Cq69, Cq70, Cq71, Cq72, Cq84, Cq85, Cq86, Cq87, Cq93, Cq94, Cq95, Cq96, Cq101, Cq102, Cq103, Cq104, Cq107, Cq34, Cq35, Cq36, Cq116, Cq117, Cq118, Cq119, Cq131, Cq132, Cq133, Cq134, Cq146, Cq147, Cq148, Cq149, Cq85, Cq86, Cq158, Cq159, Cq164, Cq165, Cq166, Cq167, Cq96, Cq101, Cq107, Cq173, Cq181, Cq182, Cq183, Cq184, Cq191, Cq192, Cq193, Cq194, Cq199, Cq200, Cq201, Cq173, Cq181, Cq182, Cq182, Cq183, Cq192, Cq210, Cq211, Cq212, Cq220, Cq221, Cq222, Cq182, Cq232, Cq233, Cq234, Cq235, Cq244, Cq245, Cq246, Cq247, Cq252, Cq222, Cq85, Cq86, Cq94, Cq70, Cq71, Cq86, Cq258, Cq259, Cq194, Cq199, Cq201, Cq264, Cq72, Cq84]
def Cq266 : D := .dct [(.tup [Cq0], .int 0), (.tup [Cq2], .int 1), (.tup [Cq3, Cq4], .int 2), (Cq7, .int 3), (Cq10, .int 4), (.tup [], .int 5), (.tup [Cq11], .int 6), (.tup [Cq12], .int 7), (.tup [Cq13, Cq14], .int 8), (Cq17, .int 9), (.tup [Cq3], .int 10), (.tup [Cq5], .int 11), (.tup [Cq18, Cq8], .int 12), (Cq21, .int 13), (Cq25, .int 14), (.tup [Cq13, Cq2], .int 15), (Cq26, .int 16), (Cq29, .int 17), (Cq32, .int 18), (.tup [Cq22, Cq12], .int 19), (Cq41, .int 20), (Cq44, .int 21), (.tup [Cq8], .int 22), (.tup [Cq3, Cq20], .int 23), (.tup [Cq5, Cq24], .int 24), (.tup [Cq13], .int 25), (.tup [Cq15], .int 26), (.tup [Cq28], .int 27), (.tup [Cq13, Cq31], .int 28), (.tup [Cq0, Cq22], .int 29), (.tup [Cq2, Cq40], .int 30), (Cq59, .int 31), (Cq61, .int 32), (Cq63, .int 33), (.tup [Cq3, Cq15], .int 34), (.tup [Cq5, Cq28], .int 35), (Cq65, .int 36), (.tup [Cq3, Cq11], .int 37), (.tup [Cq5, Cq12], .int 38), (Cq66, .int 39), (Cq67, .int 40), (Cq75, .int 41), (Cq76, .int 42), (Cq77, .int 43), (Cq78, .int 44), (Cq79, .int 45), (Cq80, .int 46), (Cq81, .int 47), (Cq82, .int 48), (.tup [Cq22], .int 49), (.tup [Cq40], .int 50), (.tup [Cq43], .int 51), (Cq90, .int 52), (Cq91, .int 53), (Cq99, .int 54), (.tup [Cq0, Cq5], .int 55), (.tup [Cq2, Cq8], .int 56), (Cq109, .int 57), (Cq110, .int 58), (.tup [Cq11, Cq15], .int 59), (.tup [Cq12, Cq28], .int 60), (Cq111, .int 61), (.tup [Cq13, Cq8], .int 62), (Cq112, .int 63), (Cq113, .int 64), (.tup [Cq22, Cq28], .int 65), (Cq114, .int 66), (Cq122, .int 67), (Cq123, .int 68), (Cq124, .int 69), (Cq125, .int 70), (Cq126, .int 71), (Cq127, .int 72), (.tup [Cq22, Cq5], .int 73), (Cq128, .int 74), (Cq129, .int 75), (Cq137, .int 76), (Cq138, .int 77), (Cq139, .int 78), (Cq140, .int 79), (Cq141, .int 80), (Cq142, .int 81), (Cq143, .int 82), (Cq144, .int 83), (Cq152, .int 84), (Cq153, .int 85), (Cq154, .int 86), (Cq155, .int 87), (Cq156, .int 88), (Cq162, .int 89), (Cq170, .int 90), (Cq171, .int 91), (Cq176, .int 92), (Cq177, .int 93), (Cq178, .int 94), (Cq179, .int 95), (.tup [Cq40, Cq8], .int 96), (Cq187, .int 97), (Cq188, .int 98), (Cq189, .int 99), (Cq197, .int 100), (Cq205, .int 101), (Cq206, .int 102), (Cq207, .int 103), (Cq208, .int 104), (Cq215, .int 105), (Cq216, .int 106), (Cq217, .int 107), (Cq218, .int 108), (Cq225, .int 109), (Cq226, .int 110), (Cq227, .int 111), (Cq228, .int 112), (Cq229, .int 113), (Cq230, .int 114), (Cq238, .int 115), (Cq239, .int 116), (Cq240, .int 117), (Cq241, .int 118), (Cq242, .int 119), (Cq250, .int 120), (.tup [Cq13, Cq40], .int 121), (.tup [Cq15, Cq43], .int 122), (Cq256, .int 123), (Cq262, .int 124)]
def Cq267 : D := .tup [Cq13, Cq64, Cq8, Cq14, Cq31]
def Cq268 : D := .lst [.tup [Cq0], .tup [Cq2], .tup [Cq3, Cq4], Cq7, Cq10, .tup [], .tup [Cq11], .tup [Cq12], .tup [Cq13, Cq14], Cq17, .tup [Cq3], .tup [Cq5], .tup [Cq18, Cq8], Cq21, Cq25, .tup [Cq13, Cq2], Cq26, Cq29, Cq32, .tup [Cq22, Cq12], Cq41, Cq44, .tup [Cq8], .tup [Cq3, Cq20], .tup [Cq5, Cq24], .tup [Cq13], .tup [Cq15], .tup [Cq28], .tup [Cq13, Cq31], .tup [Cq0, Cq22], .tup [Cq2, Cq40], Cq59, Cq61, Cq63, .tup [Cq3, Cq15], .tup [Cq5, Cq28], Cq65, .tup [Cq3, Cq11], .tup [Cq5, Cq12], Cq66, Cq67, Cq75, Cq76, Cq77, Cq78, Cq79, Cq80, Cq81, Cq82, .tup [Cq22], .tup [Cq40], .tup [Cq43], Cq90, Cq91, Cq99, .tup [Cq0, Cq5], .tup [Cq2, Cq8], Cq109, Cq110, .tup [Cq11, Cq15], .tup [Cq12, Cq28], Cq111, .tup [Cq13, Cq8], Cq112, Cq113, .tup [Cq22, Cq28], Cq114, Cq122, Cq123, Cq124, Cq125, Cq126, Cq127, .tup [Cq22, Cq5], Cq128, Cq129, Cq137, Cq138, Cq139, Cq140, Cq141, Cq142, Cq143, Cq144, Cq152, Cq153, Cq154, Cq155, Cq156, Cq162, Cq170, Cq171, Cq176, Cq177, Cq178, Cq179, .tup [Cq40, Cq8], Cq187, Cq188, Cq189, Cq197, Cq205, Cq206, Cq207, Cq208, Cq215, Cq216, Cq217, Cq218, Cq225, Cq226, Cq227, Cq228, Cq229, Cq230, Cq238, Cq239, Cq240, Cq241, Cq242, Cq250, .tup [Cq13, Cq40], .tup [Cq15, Cq43], Cq256, Cq262, Cq267]
def Cq269 : D := .lst [.int 5, .int 25, .int 84, .int 85, .int 125]
def Cq270 : D := .lst [Cq34, Cq35, Cq36, Cq37, Cq46, Cq47, Cq48, Cq49, Cq53, Cq54, Cq55, Cq56, Cq69, Cq70, Cq71, Cq72, Cq84, Cq85, Cq86, Cq87, Cq93, Cq94, Cq95, Cq96, Cq101, Cq102, Cq103, Cq104, Cq107, Cq34, Cq35, Cq36, Cq116, Cq117, Cq118, Cq119, Cq131, Cq132, Cq133, Cq134, Cq146, Cq147, Cq148, Cq149, Cq85, Cq86, Cq158, Cq159, Cq164, Cq165, Cq166, Cq167, Cq96, Cq101, Cq107, Cq173, Cq181, Cq182, Cq183, Cq184, Cq191, Cq192, Cq193, Cq194, Cq199, Cq200, Cq201, Cq173, Cq181, Cq182, Cq182, Cq183, Cq192, Cq210, Cq211, Cq212, Cq220, Cq221, Cq222, Cq182, Cq232, Cq233, Cq234, Cq235, Cq244, Cq245, Cq246, Cq247, Cq252, Cq222, Cq85, Cq86, Cq94, Cq70, Cq71, Cq86, Cq258, Cq259, Cq194, Cq199, Cq201, Cq264, Cq72, Cq84, Cq269, Cq164, Cq148, Cq149]
def Cq271 : D := .dct [(.tup [Cq0], .int 0), (.tup [Cq2], .int 1), (.tup [Cq3, Cq4], .int 2), (Cq7, .int 3), (Cq10, .int 4), (.tup [], .int 5), (.tup [Cq11], .int 6), (.tup [Cq12], .int 7), (.tup [Cq13, Cq14], .int 8), (Cq17, .int 9), (.tup [Cq3], .int 10), (.tup [Cq5], .int 11), (.tup [Cq18, Cq8], .int 12), (Cq21, .int 13), (Cq25, .int 14), (.tup [Cq13, Cq2], .int 15), (Cq26, .int 16), (Cq29, .int 17), (Cq32, .int 18), (.tup [Cq22, Cq12], .int 19), (Cq41, .int 20), (Cq44, .int 21), (.tup [Cq8], .int 22), (.tup [Cq3, Cq20], .int 23), (.tup [Cq5, Cq24], .int 24), (.tup [Cq13], .int 25), (.tup [Cq15], .int 26), (.tup [Cq28], .int 27), (.tup [Cq13, Cq31], .int 28), (.tup [Cq0, Cq22], .int 29), (.tup [Cq2, Cq40], .int 30), (Cq59, .int 31), (Cq61, .int 32), (Cq63, .int 33), (.tup [Cq3, Cq15], .int 34), (.tup [Cq5, Cq28], .int 35), (Cq65, .int 36), (.tup [Cq3, Cq11], .int 37), (.tup [Cq5, Cq12], .int 38), (Cq66, .int 39), (Cq67, .int 40), (Cq75, .int 41), (Cq76, .int 42), (Cq77, .int 43), (Cq78, .int 44), (Cq79, .int 45), (Cq80, .int 46), (Cq81, .int 47), (Cq82, .int 48), (.tup [Cq22], .int 49), (.tup [Cq40], .int 50), (.tup [Cq43], .int 51), (Cq90, .int 52), (Cq91, .int 53), (Cq99, .int 54), (.tup [Cq0, Cq5], .int 55), (.tup [Cq2, Cq8], .int 56), (Cq109, .int 57), (Cq110, .int 58), (.tup [Cq11, Cq15], .int 59), (.tup [Cq12, Cq28], .int 60), (Cq111, .int 61), (.tup [Cq13, Cq8], .int 62), (Cq112, .int 63), (Cq113, .int 64), (.tup [Cq22, Cq28], .int 65), (Cq114, .int 66), (Cq122, .int 67), (Cq123, .int 68), (Cq124, .int 69), (Cq125, .int 70), (Cq126, .int 71), (Cq127, .int 72), (.tup [Cq22, Cq5], .int 73), (Cq128, .int 74), (Cq129, .int 75), (Cq137, .int 76), (Cq138, .int 77), (Cq139, .int 78), (Cq140, .int 79), (Cq141, .int 80), (Cq142, .int 81), (Cq143, .int 82), (Cq144, .int 83), (Cq152, .int 84), (Cq153, .int 85), (Cq154, .int 86), (Cq155, .int 87), (Cq156, .int 88), (Cq162, .int 89), (Cq170, .int 90), (Cq171, .int 91), (Cq176, .int 92), (Cq177, .int 93), (Cq178, .int 94), (Cq179, .int 95), (.tup [Cq40, Cq8], .int 96), (Cq187, .int 97), (Cq188, .int 98), (Cq189, .int 99), (Cq197, .int 100), (Cq205, .int 101), (Cq206, .int 102), (Cq207, .int 103), (Cq208, .int 104), (Cq215, .int 105), (Cq216, .int 106), (Cq217, .int 107), (Cq218, .int 108), (Cq225, .int 109), (Cq226, .int 110), (Cq227, .int 111), (Cq228, .int 112), (Cq229, .int 113), (Cq230, .int 114), (Cq238, .int 115), (Cq239, .int 116), (Cq240, .int 117), (Cq241, .int 118), (Cq242, .int 119), (Cq250, .int 120), (.tup [Cq13, Cq40], .int 121), (.tup [Cq15, Cq43], .int 122), (Cq256, .int 123), (Cq262, .int 124), (Cq267, .int 125)]
def Cq272 : D := .lst [.int 5, .int 5, .int 37, .int 46, .int 47]
def Cq273 : D := .lst [.int 5, .int 10, .int 11, .int 41, .int 106]
def Cq274 : D := .lst [Cq34, Cq35, Cq36, Cq37, Cq46, Cq47, Cq48, Cq49, Cq53, Cq54, Cq55, Cq56, Cq69, Cq70, Cq71, Cq72, Cq84, Cq85, Cq86, Cq87, Cq93, Cq94, Cq95, Cq96, Cq101, Cq102, Cq103, Cq104, Cq107, Cq34, Cq35, Cq36, Cq116, Cq117, Cq118, Cq119, Cq131, Cq132, Cq133, Cq134, Cq146, Cq147, Cq148, Cq149, Cq85, Cq86, Cq158, Cq159, Cq164, Cq165, Cq166, Cq167, Cq96, Cq101, Cq107, Cq173, Cq181, Cq182, Cq183, Cq184, Cq191, Cq192, Cq193, Cq194, Cq199, Cq200, Cq201, Cq173, Cq181, Cq182, Cq182, Cq183, Cq192, Cq210, Cq211, Cq212, Cq220, Cq221, Cq222, Cq182, Cq232, Cq233, Cq234, Cq235, Cq244, Cq245, Cq246, Cq247, Cq252, Cq222, Cq85, Cq86, Cq94, Cq70, Cq71, Cq86, Cq258, Cq259, Cq194, Cq199, Cq201, Cq264, Cq72, Cq84, Cq269, Cq164, Cq148, Cq149, Cq86, Cq222, Cq272, Cq273]
def Cq275 : D := .tup [Cq13, Cq40, Cq8]
def Cq276 : D := .tup [Cq3, Cq60, Cq15, Cq43, Cq20]
def Cq277 : D := .lst [.tup [Cq0], .tup [Cq2], .tup [Cq3, Cq4], Cq7, Cq10, .tup [], .tup [Cq11], .tup [Cq12], .tup [Cq13, Cq14], Cq17, .tup [Cq3], .tup [Cq5], .tup [Cq18, Cq8], Cq21, Cq25, .tup [Cq13, Cq2], Cq26, Cq29, Cq32, .tup [Cq22, Cq12], Cq41, Cq44, .tup [Cq8], .tup [Cq3, Cq20], .tup [Cq5, Cq24], .tup [Cq13], .tup [Cq15], .tup [Cq28], .tup [Cq13, Cq31], .tup [Cq0, Cq22], .tup [Cq2, Cq40], Cq59, Cq61, Cq63, .tup [Cq3, Cq15], .tup [Cq5, Cq28], Cq65, .tup [Cq3, Cq11], .tup [Cq5, Cq12], Cq66, Cq67, Cq75, Cq76, Cq77, Cq78, Cq79, Cq80, Cq81, Cq82, .tup [Cq22], .tup [Cq40], .tup [Cq43], Cq90, Cq91, Cq99, .tup [Cq0, Cq5], .tup [Cq2, Cq8], Cq109, Cq110, .tup [Cq11, Cq15], .tup [Cq12, Cq28], Cq111, .tup [Cq13, Cq8], Cq112, Cq113, .tup [Cq22, Cq28], Cq114, Cq122, Cq123, Cq124, Cq125, Cq126, Cq127, .tup [Cq22, Cq5], Cq128, Cq129, Cq137, Cq138, Cq139, Cq140, Cq141, Cq142, Cq143, Cq144, Cq152, Cq153, Cq154, Cq155, Cq156, Cq162, Cq170, Cq171, Cq176, Cq177, Cq178, Cq179, .tup [Cq40, Cq8], Cq187, Cq188, Cq189, Cq197, Cq205, Cq206, Cq207, Cq208, Cq215, Cq216, Cq217, Cq218, Cq225, Cq226, Cq227, Cq228, Cq229, Cq230, Cq238, Cq239, Cq240, Cq241, Cq242, Cq250, .tup [Cq13, Cq40], .tup [Cq15, Cq43], Cq256, Cq262, Cq267, Cq275, Cq276]
def Cq278 : D := .lst [.int 5, .int 10, .int 73, .int 126, .int 127]
def Cq279 : D := .lst [Cq34, Cq35, Cq36, Cq37, Cq46, Cq47, Cq48, Cq49, Cq53, Cq54, Cq55, Cq56, Cq69, Cq70, Cq71, Cq72, Cq84, Cq85, Cq86, Cq87, Cq93, Cq94, Cq95, Cq96, Cq101, Cq102, Cq103, Cq104, Cq107, Cq34, Cq35, Cq36, Cq116, Cq117, Cq118, Cq119, Cq131, Cq132, Cq133, Cq134, Cq146, Cq147, Cq148, Cq149, Cq85, Cq86, Cq158, Cq159, Cq164, Cq165, Cq166, Cq167, Cq96, Cq101, Cq107, Cq173, Cq181, Cq182, Cq183, Cq184, Cq191, Cq192, Cq193, Cq194, Cq199, Cq200, Cq201, Cq173, Cq181, Cq182, Cq182, Cq183, Cq192, Cq210, Cq211, Cq212, Cq220, Cq221, Cq222, Cq182, Cq232, Cq233, Cq234, Cq235, Cq244, Cq245, Cq246, Cq247, Cq252, Cq222, Cq85, Cq86, Cq94, Cq70, Cq71, Cq86, Cq258, Cq259, Cq194, Cq199, Cq201, Cq264, Cq72, Cq84, Cq269, Cq164, Cq148, Cq149, Cq86, Cq222, Cq272, Cq273, Cq278, Cq220, Cq221, Cq221]
def Cq280 : D := .dct [(.tup [Cq0], .int 0), (.tup [Cq2], .int 1), (.tup [Cq3, Cq4], .int 2), (Cq7, .int 3), (Cq10, .int 4), (.tup [], .int 5), (.tup [Cq11], .int 6), (.tup [Cq12], .int 7), (.tup [Cq13, Cq14], .int 8), (Cq17, .int 9), (.tup [Cq3], .int 10), (.tup [Cq5], .int 11), (.tup [Cq18, Cq8], .int 12), (Cq21, .int 13), (Cq25, .int 14), (.tup [Cq13, Cq2], .int 15), (Cq26, .int 16), (Cq29, .int 17), (Cq32, .int 18), (.tup [Cq22, Cq12], .int 19), (Cq41, .int 20), (Cq44, .int 21), (.tup [Cq8], .int 22), (.tup [Cq3, Cq20], .int 23), (.tup [Cq5, Cq24], .int 24), (.tup [Cq13], .int 25), (.tup [Cq15], .int 26), (.tup [Cq28], .int 27), (.tup [Cq13, Cq31], .int 28), (.tup [Cq0, Cq22], .int 29), (.tup [Cq2, Cq40], .int 30), (Cq59, .int 31), (Cq61, .int 32), (Cq63, .int 33), (.tup [Cq3, Cq15], .int 34), (.tup [Cq5, Cq28], .int 35), (Cq65, .int 36), (.tup [Cq3, Cq11], .int 37), (.tup [Cq5, Cq12], .int 38), (Cq66, .int 39), (Cq67, .int 40), (Cq75, .int 41), (Cq76, .int 42), (Cq77, .int 43), (Cq78, .int 44), (Cq79, .int 45), (Cq80, .int 46), (Cq81, .int 47), (Cq82, .int 48), (.tup [Cq22], .int 49), (.tup [Cq40], .int 50), (.tup [Cq43], .int 51), (Cq90, .int 52), (Cq91, .int 53), (Cq99, .int 54), (.tup [Cq0, Cq5], .int 55), (.tup [Cq2, Cq8], .int 56), (Cq109, .int 57), (Cq110, .int 58), (.tup [Cq11, Cq15], .int 59), (.tup [Cq12, Cq28], .int 60), (Cq111, .int 61), (.tup [Cq13, Cq8], .int 62), (Cq112, .int 63), (Cq113, .int 64), (.tup [Cq22, Cq28], .int 65), (Cq114, .int 66), (Cq122, .int 67), (Cq123, .int 68), (Cq124, .int 69), (Cq125, .int 70), (Cq126, .int 71), (Cq127, .int 72), (.tup [Cq22, Cq5], .int 73), (Cq128, .int 74), (Cq129, .int 75), (Cq137, .int 76), (Cq138, .int 77), (Cq139, .int 78), (Cq140, .int 79), (Cq141, .int 80), (Cq142, .int 81), (Cq143, .int 82), (Cq144, .int 83), (Cq152, .int 84), (Cq153, .int 85), (Cq154, .int 86), (Cq155, .int 87), (Cq156, .int 88), (Cq162, .int 89), (Cq170, .int 90), (Cq171, .int 91), (Cq176, .int 92), (Cq177, .int 93), (Cq178, .int 94), (Cq179, .int 95), (.tup [Cq40, Cq8], .int 96), (Cq187, .int 97), (Cq188, .int 98), (Cq189, .int 99), (Cq197, .int 100), (Cq205, .int 101), (Cq206, .int 102), (Cq207, .int 103), (Cq208, .int 104), (Cq215, .int 105), (Cq216, .int 106), (Cq217, .int 107), (Cq218, .int 108), (Cq225, .int 109), (Cq226, .int 110), (Cq227, .int 111), (Cq228, .int 112), (Cq229, .int 113), (Cq230, .int 114), (Cq238, .int 115), (Cq239, .int 116), (Cq240, .int 117), (Cq241, .int 118), (Cq242, .int 119), (Cq250, .int 120), (.tup [Cq13, Cq40], .int 121), (.tup [Cq15, Cq43], .int 122), (Cq256, .int 123), (Cq262, .int 124), (Cq267, .int 125), (Cq275, .int 126), (Cq276, .int 127)]
def Cq281 : D := .lst [Cq34, Cq35, Cq36, Cq37, Cq46, Cq47, Cq48, Cq49, Cq53, Cq54, Cq55, Cq56, Cq69, Cq70, Cq71, Cq72, Cq84, Cq85, Cq86, Cq87, Cq93, Cq94, Cq95, Cq96, Cq101, Cq102, Cq103, Cq104, Cq107, Cq34, Cq35, Cq36, Cq116, Cq117, Cq118, Cq119, Cq131, Cq132, Cq133, Cq134, Cq146, Cq147, Cq148, Cq149, Cq85, Cq86, Cq158, Cq159, Cq164, Cq165, Cq166, Cq167, Cq96, Cq101, Cq107, Cq173, Cq181, Cq182, Cq183, Cq184, Cq191, Cq192, Cq193, Cq194, Cq199, Cq200, Cq201, Cq173, Cq181, Cq182, Cq182, Cq183, Cq192, Cq210, Cq211, Cq212, Cq220, Cq221, Cq222, Cq182, Cq232, Cq233, Cq234, Cq235, Cq244, Cq245, Cq246, Cq247, Cq252, Cq222, Cq85, Cq86, Cq94, Cq70, Cq71, Cq86, Cq258, Cq259, Cq194, Cq199, Cq201, Cq264, Cq72, Cq84, Cq269, Cq164, Cq148, Cq149, Cq86, Cq222, Cq272, Cq273, Cq278, Cq220, Cq221, Cq221, Cq222, Cq273, Cq212, Cq221]
def Cq282 : D := .tup [Cq22, Cq5, Cq12, Cq28]
def Cq283 : D := .tup [Cq13, Cq64, Cq40, Cq8, Cq14, Cq31]
def Cq284 : D := .tup [Cq13, Cq64, Cq8, Cq31]
def Cq285 : D := .lst [.tup [Cq0], .tup [Cq2], .tup [Cq3, Cq4], Cq7, Cq10, .tup [], .tup [Cq11], .tup [Cq12], .tup [Cq13, Cq14], Cq17, .tup [Cq3], .tup [Cq5], .tup [Cq18, Cq8], Cq21, Cq25, .tup [Cq13, Cq2], Cq26, Cq29, Cq32, .tup [Cq22, Cq12], Cq41, Cq44, .tup [Cq8], .tup [Cq3, Cq20], .tup [Cq5, Cq24], .tup [Cq13], .tup [Cq15], .tup [Cq28], .tup [Cq13, Cq31], .tup [Cq0, Cq22], .tup [Cq2, Cq40], Cq59, Cq61, Cq63, .tup [Cq3, Cq15], .tup [Cq5, Cq28], Cq65, .tup [Cq3, Cq11], .tup [Cq5, Cq12], Cq66, Cq67, Cq75, Cq76, Cq77, Cq78, Cq79, Cq80, Cq81, Cq82, .tup [Cq22], .tup [Cq40], .tup [Cq43], Cq90, Cq91, Cq99, .tup [Cq0, Cq5], .tup [Cq2, Cq8], Cq109, Cq110, .tup [Cq11, Cq15], .tup [Cq12, Cq28], Cq111, .tup [Cq13, Cq8], Cq112, Cq113, .tup [Cq22, Cq28], Cq114, Cq122, Cq123, Cq124, Cq125, Cq126, Cq127, .tup [Cq22, Cq5], Cq128, Cq129, Cq137, Cq138, Cq139, Cq140, Cq141, Cq142, Cq143, Cq144, Cq152, Cq153, Cq154, Cq155, Cq156, Cq162, Cq170, Cq171, Cq176, Cq177, Cq178, Cq179, .tup [Cq40, Cq8], Cq187, Cq188, Cq189, Cq197, Cq205, Cq206, Cq207, Cq208, Cq215, Cq216, Cq217, Cq218, Cq225, Cq226, Cq227, Cq228, Cq229, Cq230, Cq238, Cq239, Cq240, Cq241, Cq242, Cq250, .tup [Cq13, Cq40], .tup [Cq15, Cq43], Cq256, Cq262, Cq267, Cq275, Cq276, Cq282, Cq283, Cq284]
def Cq286 : D := .lst [.int 5, .int 25, .int 84, .int 128, .int 129]
def Cq287 : D := .lst [.int 5, .int 10, .int 11, .int 62, .int 63]
def Cq288 : D := .lst [.int 5, .int 5, .int 25, .int 26, .int 65]
def Cq289 : D := .lst [.int 5, .int 25, .int 34, .int 35, .int 130]
def Cq290 : D := .lst [Cq34, Cq35, Cq36, Cq37, Cq46, Cq47, Cq48, Cq49, Cq53, Cq54, Cq55, Cq56, Cq69, Cq70, Cq71, Cq72, Cq84, Cq85, Cq86, Cq87, Cq93, Cq94, Cq95, Cq96, Cq101, Cq102, Cq103, Cq104, Cq107, Cq34, Cq35, Cq36, Cq116, Cq117, Cq118, Cq119, Cq131, Cq132, Cq133, Cq134, Cq146, Cq147, Cq148, Cq149, Cq85, Cq86, Cq158, Cq159, Cq164, Cq165, Cq166, Cq167, Cq96, Cq101, Cq107, Cq173, Cq181, Cq182, Cq183, Cq184, Cq191, Cq192, Cq193, Cq194, Cq199, Cq200, Cq201, Cq173, Cq181, Cq182, Cq182, Cq183, Cq192, Cq210, Cq211, Cq212, Cq220, Cq221, Cq222, Cq182, Cq232, Cq233, Cq234, Cq235, Cq244, Cq245, Cq246, Cq247, Cq252, Cq222, Cq85, Cq86, Cq94, Cq70, Cq71, Cq86, Cq258, Cq259, Cq194, Cq199, Cq201, Cq264, Cq72, Cq84, Cq269, Cq164, Cq148, Cq149, Cq86, Cq222, Cq272, Cq273, Cq278, Cq220, Cq221, Cq221, Cq222, Cq273, Cq212, Cq221, Cq286, Cq287, Cq288, Cq289]
def Cq291 : D := .dct [(.tup [Cq0], .int 0), (.tup [Cq2], .int 1), (.tup [Cq3, Cq4], .int 2), (Cq7, .int 3), (Cq10, .int 4), (.tup [], .int 5), (.tup [Cq11], .int 6), (.tup [Cq12], .int 7), (.tup [Cq13, Cq14], .int 8), (Cq17, .int 9), (.tup [Cq3], .int 10), (.tup [Cq5], .int 11), (.tup [Cq18, Cq8], .int 12), (Cq21, .int 13), (Cq25, .int 14), (.tup [Cq13, Cq2], .int 15), (Cq26, .int 16), (Cq29, .int 17), (Cq32, .int 18), (.tup [Cq22, Cq12], .int 19), (Cq41, .int 20), (Cq44, .int 21), (.tup [Cq8], .int 22), (.tup [Cq3, Cq20], .int 23), (.tup [Cq5, Cq24], .int 24), (.tup [Cq13], .int 25), (.tup [Cq15], .int 26), (.tup [Cq28], .int 27), (.tup [Cq13, Cq31], .int 28), (.tup [Cq0, Cq22], .int 29), (.tup [Cq2, Cq40], .int 30), (Cq59, .int 31), (Cq61, .int 32), (Cq63, .int 33), (.tup [Cq3, Cq15], .int 34), (.tup [Cq5, Cq28], .int 35), (Cq65, .int 36), (.tup [Cq3, Cq11], .int 37), (.tup [Cq5, Cq12], .int 38), (Cq66, .int 39), (Cq67, .int 40), (Cq75, .int 41), (Cq76, .int 42), (Cq77, .int 43), (Cq78, .int 44), (Cq79, .int 45), (Cq80, .int 46), (Cq81, .int 47), (Cq82, .int 48), (.tup [Cq22], .int 49), (.tup [Cq40], .int 50), (.tup [Cq43], .int 51), (Cq90, .int 52), (Cq91, .int 53), (Cq99, .int 54), (.tup [Cq0, Cq5], .int 55), (.tup [Cq2, Cq8], .int 56), (Cq109, .int 57), (Cq110, .int 58), (.tup [Cq11, Cq15], .int 59), (.tup [Cq12, Cq28], .int 60), (Cq111, .int 61), (.tup [Cq13, Cq8], .int 62), (Cq112, .int 63), (Cq113, .int 64), (.tup [Cq22, Cq28], .int 65), (Cq114, .int 66), (Cq122, .int 67), (Cq123, .int 68), (Cq124, .int 69), (Cq125, .int 70), (Cq126, .int 71), (Cq127, .int 72), (.tup [Cq22, Cq5], .int 73), (Cq128, .int 74), (Cq129, .int 75), (Cq137, .int 76), (Cq138, .int 77), (Cq139, .int 78), (Cq140, .int 79), (Cq141, .int 80), (Cq142, .int 81), (Cq143, .int 82), (Cq144, .int 83), (Cq152, .int 84), (Cq153, .int 85), (Cq154, .int 86), (Cq155, .int 87), (Cq156, .int 88), (Cq162, .int 89), (Cq170, .int 90), (Cq171, .int 91), (Cq176, .int 92), (Cq177, .int 93), (Cq178, .int 94), (Cq179, .int 95), (.tup [Cq40, Cq8], .int 96), (Cq187, .int 97), (Cq188, .int 98), (Cq189, .int 99), (Cq197, .int 100), (Cq205, .int 101), (Cq206, .int 102), (Cq207, .int 103), (Cq208, .int 104), (Cq215, .int 105), (Cq216, .int 106), (Cq217, .int 107), (Cq218, .int 108), (Cq225, .int 109), (Cq226, .int 110), (Cq227, .int 111), (Cq228, .int 112), (Cq229, .int 113), (Cq230, .int 114), (Cq238, .int 115), (Cq239, .int 116), (Cq240, .int 117), (Cq241, .int 118), (Cq242, .int 119), (Cq250, .int 120), (.tup [Cq13, Cq40], .int 121), (.tup [Cq15, Cq43], .int 122), (Cq256, .int 123), (Cq262, .int 124), (Cq267, .int 125), (Cq275, .int 126), (Cq276, .int 127), (Cq282, .int 128), (Cq283, .int 129), (Cq284, .int 130)]
def Cq292 : D := .tup [Cq3, Cq15, Cq43, Cq20]
def Cq293 : D := .tup [Cq22, Cq5, Cq62, Cq28, Cq24]
def Cq294 : D := .lst [.tup [Cq0], .tup [Cq2], .tup [Cq3, Cq4], Cq7, Cq10, .tup [], .tup [Cq11], .tup [Cq12], .tup [Cq13, Cq14], Cq17, .tup [Cq3], .tup [Cq5], .tup [Cq18, Cq8], Cq21, Cq25, .tup [Cq13, Cq2], Cq26, Cq29, Cq32, .tup [Cq22, Cq12], Cq41, Cq44, .tup [Cq8], .tup [Cq3, Cq20], .tup [Cq5, Cq24], .tup [Cq13], .tup [Cq15], .tup [Cq28], .tup [Cq13, Cq31], .tup [Cq0, Cq22], .tup [Cq2, Cq40], Cq59, Cq61, Cq63, .tup [Cq3, Cq15], .tup [Cq5, Cq28], Cq65, .tup [Cq3, Cq11], .tup [Cq5, Cq12], Cq66, Cq67, Cq75, Cq76, Cq77, Cq78, Cq79, Cq80, Cq81, Cq82, .tup [Cq22], .tup [Cq40], .tup [Cq43], Cq90, Cq91, Cq99, .tup [Cq0, Cq5], .tup [Cq2, Cq8], Cq109, Cq110, .tup [Cq11, Cq15], .tup [Cq12, Cq28], Cq111, .tup [Cq13, Cq8], Cq112, Cq113, .tup [Cq22, Cq28], Cq114, Cq122, Cq123, Cq124, Cq125, Cq126, Cq127, .tup [Cq22, Cq5], Cq128, Cq129, Cq137, Cq138, Cq139, Cq140, Cq141, Cq142, Cq143, Cq144, Cq152, Cq153, Cq154, Cq155, Cq156, Cq162, Cq170, Cq171, Cq176, Cq177, Cq178, Cq179, .tup [Cq40, Cq8], Cq187, Cq188, Cq189, Cq197, Cq205, Cq206, Cq207, Cq208, Cq215, Cq216, Cq217, Cq218, Cq225, Cq226, Cq227, Cq228, Cq229, Cq230, Cq238, Cq239, Cq240, Cq241, Cq242, Cq250, .tup [Cq13, Cq40], .tup [Cq15, Cq43], Cq256, Cq262, Cq267, Cq275, Cq276, Cq282, Cq283, Cq284, Cq292, Cq293]
def Cq295 : D := .lst [.int 5, .int 10, .int 73, .int 126, .int 131]
def Cq296 : D := .lst [.int 10, .int 11, .int 62, .int 98, .int 132]
def Cq297 : D := .lst [Cq34, Cq35, Cq36, Cq37, Cq46, Cq47, Cq48, Cq49, Cq53, Cq54, Cq55, Cq56, Cq69, Cq70, Cq71, Cq72, Cq84, Cq85, Cq86, Cq87, Cq93, Cq94, Cq95, Cq96, Cq101, Cq102, Cq103, Cq104, Cq107, Cq34, Cq35, Cq36, Cq116, Cq117, Cq118, Cq119, Cq131, Cq132, Cq133, Cq134, Cq146, Cq147, Cq148, Cq149, Cq85, Cq86, Cq158, Cq159, Cq164, Cq165, Cq166, Cq167, Cq96, Cq101, Cq107, Cq173, Cq181, Cq182, Cq183, Cq184, Cq191, Cq192, Cq193, Cq194, Cq199, Cq200, Cq201, Cq173, Cq181, Cq182, Cq182, Cq183, Cq192, Cq210, Cq211, Cq212, Cq220, Cq221, Cq222, Cq182, Cq232, Cq233, Cq234, Cq235, Cq244, Cq245, Cq246, Cq247, Cq252, Cq222, Cq85, Cq86, Cq94, Cq70, Cq71, Cq86, Cq258, Cq259, Cq194, Cq199, Cq201, Cq264, Cq72, Cq84, Cq269, Cq164, Cq148, Cq149, Cq86, Cq222, Cq272, Cq273, Cq278, Cq220, Cq221, Cq221, Cq222, Cq273, Cq212, Cq221, Cq286, Cq287, Cq288, Cq289, Cq259, Cq246, Cq295, Cq296]
def Cq298 : D := .dct [(.tup [Cq0], .int 0), (.tup [Cq2], .int 1), (.tup [Cq3, Cq4], .int 2), (Cq7, .int 3), (Cq10, .int 4), (.tup [], .int 5), (.tup [Cq11], .int 6), (.tup [Cq12], .int 7), (.tup [Cq13, Cq14], .int 8), (Cq17, .int 9), (.tup [Cq3], .int 10), (.tup [Cq5], .int 11), (.tup [Cq18, Cq8], .int 12), (Cq21, .int 13), (Cq25, .int 14), (.tup [Cq13, Cq2], .int 15), (Cq26, .int 16), (Cq29, .int 17), (Cq32, .int 18), (.tup [Cq22, Cq12], .int 19), (Cq41, .int 20), (Cq44, .int 21), (.tup [Cq8], .int 22), (.tup [Cq3, Cq20], .int 23), (.tup [Cq5, Cq24], .int 24), (.tup [Cq13], .int 25), (.tup [Cq15], .int 26), (.tup [Cq28], .int 27), (.tup [Cq13, Cq31], .int 28), (.tup [Cq0, Cq22], .int 29), (.tup [Cq2, Cq40], .int 30), (Cq59, .int 31), (Cq61, .int 32), (Cq63, .int 33), (.tup [Cq3, Cq15], .int 34), (.tup [Cq5, Cq28], .int 35), (Cq65, .int 36), (.tup [Cq3, Cq11], .int 37), (.tup [Cq5, Cq12], .int 38), (Cq66, .int 39), (Cq67, .int 40), (Cq75, .int 41), (Cq76, .int 42), (Cq77, .int 43), (Cq78, .int 44), (Cq79, .int 45), (Cq80, .int 46), (Cq81, .int 47), (Cq82, .int 48), (.tup [Cq22], .int 49), (.tup [Cq40], .int 50), (.tup [Cq43], .int 51), (Cq90, .int 52), (Cq91, .int 53), (Cq99, .int 54), (.tup [Cq0, Cq5], .int 55), (.tup [Cq2, Cq8], .int 56), (Cq109, .int 57), (Cq110, .int 58), (.tup [Cq11, Cq15], .int 59), (.tup [Cq12, Cq28], .int 60), (Cq111, .int 61), (.tup [Cq13, Cq8], .int 62), (Cq112, .int 63), (Cq113, .int 64), (.tup [Cq22, Cq28], .int 65), (Cq114, .int 66), (Cq122, .int 67), (Cq123, .int 68), (Cq124, .int 69), (Cq125, .int 70), (Cq126, .int 71), (Cq127, .int 72), (.tup [Cq22, Cq5], .int 73), (Cq128, .int 74), (Cq129, .int 75), (Cq137, .int 76), (Cq138, .int 77), (Cq139, .int 78), (Cq140, .int 79), (Cq141, .int 80), (Cq142, .int 81), (Cq143, .int 82), (Cq144, .int 83), (Cq152, .int 84), (Cq153, .int 85), (Cq154, .int 86), (Cq155, .int 87), (Cq156, .int 88), (Cq162, .int 89), (Cq170, .int 90), (Cq171, .int 91), (Cq176, .int 92), (Cq177, .int 93), (Cq178, .int 94), (Cq179, .int 95), (.tup [Cq40, Cq8], .int 96), (Cq187, .int 97), (Cq188, .int 98), (Cq189, .int 99), (Cq197, .int 100), (Cq205, .int 101), (Cq206, .int 102), (Cq207, .int 103), (Cq208, .int 104), (Cq215, .int 105), (Cq216, .int 106), (Cq217, .int 107), (Cq218, .int 108), (Cq225, .int 109), (Cq226, .int 110), (Cq227, .int 111), (Cq228, .int 112), (Cq229, .int 113), (Cq230, .int 114), (Cq238, .int 115), (Cq239, .int 116), (Cq240, .int 117), (Cq241, .int 118), (Cq242, .int 119), (Cq250, .int 120), (.tup [Cq13, Cq40], .int 121), (.tup [Cq15, Cq43], .int 122), (Cq256, .int 123), (Cq262, .int 124), (Cq267, .int 125), (Cq275, .int 126), (Cq276, .int 127), (Cq282, .int 128), (Cq283, .int 129), (Cq284, .int 130), (Cq292, .int 131), (Cq293, .int 132)]
def Cq299 : D := .tup [Cq13, Cq40, Cq8, Cq14, Cq31]
def Cq300 : D := .tup [Cq3, Cq60, Cq15, Cq19, Cq43, Cq20]
def Cq301 : D := .lst [.tup [Cq0], .tup [Cq2], .tup [Cq3, Cq4], Cq7, Cq10, .tup [], .tup [Cq11], .tup [Cq12], .tup [Cq13, Cq14], Cq17, .tup [Cq3], .tup [Cq5], .tup [Cq18, Cq8], Cq21, Cq25, .tup [Cq13, Cq2], Cq26, Cq29, Cq32, .tup [Cq22, Cq12], Cq41, Cq44, .tup [Cq8], .tup [Cq3, Cq20], .tup [Cq5, Cq24], .tup [Cq13], .tup [Cq15], .tup [Cq28], .tup [Cq13, Cq31], .tup [Cq0, Cq22], .tup [Cq2, Cq40], Cq59, Cq61, Cq63, .tup [Cq3, Cq15], .tup [Cq5, Cq28], Cq65, .tup [Cq3, Cq11], .tup [Cq5, Cq12], Cq66, Cq67, Cq75, Cq76, Cq77, Cq78, Cq79, Cq80, Cq81, Cq82, .tup [Cq22], .tup [Cq40], .tup [Cq43], Cq90, Cq91, Cq99, .tup [Cq0, Cq5], .tup [Cq2, Cq8], Cq109, Cq110, .tup [Cq11, Cq15], .tup [Cq12, Cq28], Cq111, .tup [Cq13, Cq8], Cq112, Cq113, .tup [Cq22, Cq28], Cq114, Cq122, Cq123, Cq124, Cq125, Cq126, Cq127, .tup [Cq22, Cq5], Cq128, Cq129, Cq137, Cq138, Cq139, Cq140, Cq141, Cq142, Cq143, Cq144, Cq152, Cq153, Cq154, Cq155, Cq156, Cq162, Cq170, Cq171, Cq176, Cq177, Cq178, Cq179, .tup [Cq40, Cq8], Cq187, Cq188, Cq189, Cq197, Cq205, Cq206, Cq207, Cq208, Cq215, Cq216, Cq217, Cq218, Cq225, Cq226, Cq227, Cq228, Cq229, Cq230, Cq238, Cq239, Cq240, Cq241, Cq242, Cq250, .tup [Cq13, Cq40], .tup [Cq15, Cq43], Cq256, Cq262, Cq267, Cq275, Cq276, Cq282, Cq283, Cq284, Cq292, Cq293, Cq299, Cq300]
def Cq302 : D := .lst [.int 5, .int 25, .int 84, .int 128, .int 133]
def Cq303 : D := .lst [.int 5, .int 10, .int 73, .int 87, .int 134]
def Cq304 : D := .lst [Cq34, Cq35, Cq36, Cq37, Cq46, Cq47, Cq48, Cq49, Cq53, Cq54, Cq55, Cq56, Cq69, Cq70, Cq71, Cq72, Cq84, Cq85, Cq86, Cq87, Cq93, Cq94, Cq95, Cq96, Cq101, Cq102, Cq103, Cq104, Cq107, Cq34, Cq35, Cq36, Cq116, Cq117, Cq118, Cq119, Cq131, Cq132, Cq133, Cq134, Cq146, Cq147, Cq148, Cq149, Cq85, Cq86, Cq158, Cq159, Cq164, Cq165, Cq166, Cq167, Cq96, Cq101, Cq107, Cq173, Cq181, Cq182, Cq183, Cq184, Cq191, Cq192, Cq193, Cq194, Cq199, Cq200, Cq201, Cq173, Cq181, Cq182, Cq182, Cq183, Cq192, Cq210, Cq211, Cq212, Cq220, Cq221, Cq222, Cq182, Cq232, Cq233, Cq234, Cq235, Cq244, Cq245, Cq246, Cq247, Cq252, Cq222, Cq85, Cq86, Cq94, Cq70, Cq71, Cq86, Cq258, Cq259, Cq194, Cq199, Cq201, Cq264, Cq72, Cq84, Cq269, Cq164, Cq148, Cq149, Cq86, Cq222, Cq272, Cq273, Cq278, Cq220, Cq221, Cq221, Cq222, Cq273, Cq212, Cq221, Cq286, Cq287, Cq288, Cq289, Cq259, Cq246, Cq295, Cq296, Cq302, Cq303, Cq264, Cq296]
def Cq305 : D := .dct [(.tup [Cq0], .int 0), (.tup [Cq2], .int 1), (.tup [Cq3, Cq4], .int 2), (Cq7, .int 3), (Cq10, .int 4), (.tup [], .int 5), (.tup [Cq11], .int 6), (.tup [Cq12], .int 7), (.tup [Cq13, Cq14], .int 8), (Cq17, .int 9), (.tup [Cq3], .int 10), (.tup [Cq5], .int 11), (.tup [Cq18, Cq8], .int 12), (Cq21, .int 13), (Cq25, .int 14), (.tup [Cq13, Cq2], .int 15), (Cq26, .int 16), (Cq29, .int 17), (Cq32, .int 18), (.tup [Cq22, Cq12], .int 19), (Cq41, .int 20), (Cq44, .int 21), (.tup [Cq8], .int 22), (.tup [Cq3, Cq20], .int 23), (.tup [Cq5, Cq24], .int 24), (.tup [Cq13], .int 25), (.tup [Cq15], .int 26), (.tup [Cq28], .int 27), (.tup [Cq13, Cq31], .int 28), (.tup [Cq0, Cq22], .int 29), (.tup [Cq2, Cq40], .int 30), (Cq59, .int 31), (Cq61, .int 32), (Cq63, .int 33), (.tup [Cq3, Cq15], .int 34), (.tup [Cq5, Cq28], .int 35), (Cq65, .int 36), (.tup [Cq3, Cq11], .int 37), (.tup [Cq5, Cq12], .int 38), (Cq66, .int 39), (Cq67, .int 40), (Cq75, .int 41), (Cq76, .int 42), (Cq77, .int 43), (Cq78, .int 44), (Cq79, .int 45), (Cq80, .int 46), (Cq81, .int 47), (Cq82, .int 48), (.tup [Cq22], .int 49), (.tup [Cq40], .int 50), (.tup [Cq43], .int 51), (Cq90, .int 52), (Cq91, .int 53), (Cq99, .int 54), (.tup [Cq0, Cq5], .int 55), (.tup [Cq2, Cq8], .int 56), (Cq109, .int 57), (Cq110, .int 58), (.tup [Cq11, Cq15], .int 59), (.tup [Cq12, Cq28], .int 60), (Cq111, .int 61), (.tup [Cq13, Cq8], .int 62), (Cq112, .int 63), (Cq113, .int 64), (.tup [Cq22, Cq28], .int 65), (Cq114, .int 66), (Cq122, .int 67), (Cq123, .int 68), (Cq124, .int 69), (Cq125, .int 70), (Cq126, .int 71), (Cq127, .int 72), (.tup [Cq22, Cq5], .int 73), (Cq128, .int 74), (Cq129, .int 75), (Cq137, .int 76), (Cq138, .int 77), (Cq139, .int 78), (Cq140, .int 79), (Cq141, .int 80), (Cq142, .int 81), (Cq143, .int 82), (Cq144, .int 83), (Cq152, .int 84), (Cq153, .int 85), (Cq154, .int 86), (Cq155, .int 87), (Cq156, .int 88), (Cq162, .int 89), (Cq170, .int 90), (Cq171, .int 91), (Cq176, .int 92), (Cq177, .int 93), (Cq178, .int 94), (Cq179, .int 95), (.tup [Cq40, Cq8], .int 96), (Cq187, .int 97), (Cq188, .int 98), (Cq189, .int 99), (Cq197, .int 100), (Cq205, .int 101), (Cq206, .int 102), (Cq207, .int 103), (Cq208, .int 104), (Cq215, .int 105), (Cq216, .int 106), (Cq217, .int 107), (Cq218, .int 108), (Cq225, .int 109), (Cq226, .int 110), (Cq227, .int 111), (Cq228, .int 112), (Cq229, .int 113), (Cq230, .int 114), (Cq238, .int 115), (Cq239, .int 116), (Cq240, .int 117), (Cq241, .int 118), (Cq242, .int 119), (Cq250, .int 120), (.tup [Cq13, Cq40], .int 121), (.tup [Cq15, Cq43], .int 122), (Cq256, .int 123), (Cq262, .int 124), (Cq267, .int 125), (Cq275, .int 126), (Cq276, .int 127), (Cq282, .int 128), (Cq283, .int 129), (Cq284, .int 130), (Cq292, .int 131), (Cq293, .int 132), (Cq299, .int 133), (Cq300, .int 134)]
def Cq306 : D := .tup [Cq13, Cq64, Cq40, Cq8, Cq31]
def Cq307 : D := .lst [.tup [Cq0], .tup [Cq2], .tup [Cq3, Cq4], Cq7, Cq10, .tup [], .tup [Cq11], .tup [Cq12], .tup [Cq13, Cq14], Cq17, .tup [Cq3], .tup [Cq5], .tup [Cq18, Cq8], Cq21, Cq25, .tup [Cq13, Cq2], Cq26, Cq29, Cq32, .tup [Cq22, Cq12], Cq41, Cq44, .tup [Cq8], .tup [Cq3, Cq20], .tup [Cq5, Cq24], .tup [Cq13], .tup [Cq15], .tup [Cq28], .tup [Cq13, Cq31], .tup [Cq0, Cq22], .tup [Cq2, Cq40], Cq59, Cq61, Cq63, .tup [Cq3, Cq15], .tup [Cq5, Cq28], Cq65, .tup [Cq3, Cq11], .tup [Cq5, Cq12], Cq66, Cq67, Cq75, Cq76, Cq77, Cq78, Cq79, Cq80, Cq81, Cq82, .tup [Cq22], .tup [Cq40], .tup [Cq43], Cq90, Cq91, Cq99, .tup [Cq0, Cq5], .tup [Cq2, Cq8], Cq109, Cq110, .tup [Cq11, Cq15], .tup [Cq12, Cq28], Cq111, .tup [Cq13, Cq8], Cq112, Cq113, .tup [Cq22, Cq28], Cq114, Cq122, Cq123, Cq124, Cq125, Cq126, Cq127, .tup [Cq22, Cq5], Cq128, Cq129, Cq137, Cq138, Cq139, Cq140, Cq141, Cq142, Cq143, Cq144, Cq152, Cq153, Cq154, Cq155, Cq156, Cq162, Cq170, Cq171, Cq176, Cq177, Cq178, Cq179, .tup [Cq40, Cq8], Cq187, Cq188, Cq189, Cq197, Cq205, Cq206, Cq207, Cq208, Cq215, Cq216, Cq217, Cq218, Cq225, Cq226, Cq227, Cq228, Cq229, Cq230, Cq238, Cq239, Cq240, Cq241, Cq242, Cq250, .tup [Cq13, Cq40], .tup [Cq15, Cq43], Cq256, Cq262, Cq267, Cq275, Cq276, Cq282, Cq283, Cq284, Cq292, Cq293, Cq299, Cq300, Cq306]
def Cq308 : D := .lst [.int 5, .int 25, .int 34, .int 82, .int 135]
def Cq309 : D := .lst [Cq34, Cq35, Cq36, Cq37, Cq46, Cq47, Cq48, Cq49, Cq53, Cq54, Cq55, Cq56, Cq69, Cq70, Cq71, Cq72, Cq84, Cq85, Cq86, Cq87, Cq93, Cq94, Cq95, Cq96, Cq101, Cq102, Cq103, Cq104, Cq107, Cq34, Cq35, Cq36, Cq116, Cq117, Cq118, Cq119, Cq131, Cq132, Cq133, Cq134, Cq146, Cq147, Cq148, Cq149, Cq85, Cq86, Cq158, Cq159, Cq164, Cq165, Cq166, Cq167, Cq96, Cq101, Cq107, Cq173, Cq181, Cq182, Cq183, Cq184, Cq191, Cq192, Cq193, Cq194, Cq199, Cq200, Cq201, Cq173, Cq181, Cq182, Cq182, Cq183, Cq192, Cq210, Cq211, Cq212, Cq220, Cq221, Cq222, Cq182, Cq232, Cq233, Cq234, Cq235, Cq244, Cq245, Cq246, Cq247, Cq252, Cq222, Cq85, Cq86, Cq94, Cq70, Cq71, Cq86, Cq258, Cq259, Cq194, Cq199, Cq201, Cq264, Cq72, Cq84, Cq269, Cq164, Cq148, Cq149, Cq86, Cq222, Cq272, Cq273, Cq278, Cq220, Cq221, Cq221, Cq222, Cq273, Cq212, Cq221, Cq286, Cq287, Cq288, Cq289, Cq259, Cq246, Cq295, Cq296, Cq302, Cq303, Cq264, Cq296, Cq308, Cq303, Cq252, Cq278]
def Cq310 : D := .dct [(.tup [Cq0], .int 0), (.tup [Cq2], .int 1), (.tup [Cq3, Cq4], .int 2), (Cq7, .int 3), (Cq10, .int 4), (.tup [], .int 5), (.tup [Cq11], .int 6), (.tup [Cq12], .int 7), (.tup [Cq13, Cq14], .int 8), (Cq17, .int 9), (.tup [Cq3], .int 10), (.tup [Cq5], .int 11), (.tup [Cq18, Cq8], .int 12), (Cq21, .int 13), (Cq25, .int 14), (.tup [Cq13, Cq2], .int 15), (Cq26, .int 16), (Cq29, .int 17), (Cq32, .int 18), (.tup [Cq22, Cq12], .int 19), (Cq41, .int 20), (Cq44, .int 21), (.tup [Cq8], .int 22), (.tup [Cq3, Cq20], .int 23), (.tup [Cq5, Cq24], .int 24), (.tup [Cq13], .int 25), (.tup [Cq15], .int 26), (.tup [Cq28], .int 27), (.tup [Cq13, Cq31], .int 28), (.tup [Cq0, Cq22], .int 29), (.tup [Cq2, Cq40], .int 30), (Cq59, .int 31), (Cq61, .int 32), (Cq63, .int 33), (.tup [Cq3, Cq15], .int 34), (.tup [Cq5, Cq28], .int 35), (Cq65, .int 36), (.tup [Cq3, Cq11], .int 37), (.tup [Cq5, Cq12], .int 38), (Cq66, .int 39), (Cq67, .int 40), (Cq75, .int 41), (Cq76, .int 42), (Cq77, .int 43), (Cq78, .int 44), (Cq79, .int 45), (Cq80, .int 46), (Cq81, .int 47), (Cq82, .int 48), (.tup [Cq22], .int 49), (.tup [Cq40], .int 50), (.tup [Cq43], .int 51), (Cq90, .int 52), (Cq91, .int 53), (Cq99, .int 54), (.tup [Cq0, Cq5], .int 55), (.tup [Cq2, Cq8], .int 56), (Cq109, .int 57), (Cq110, .int 58), (.tup [Cq11, Cq15], .int 59), (.tup [Cq12, Cq28], .int 60), (Cq111, .int 61), (.tup [Cq13, Cq8], .int 62), (Cq112, .int 63), (Cq113, .int 64), (.tup [Cq22, Cq28], .int 65), (Cq114, .int 66), (Cq122, .int 67), (Cq123, .int 68), (Cq124, .int 69), (Cq125, .int 70), (Cq126, .int 71), (Cq127, .int 72), (.tup [Cq22, Cq5], .int 73), (Cq128, .int 74), (Cq129, .int 75), (Cq137, .int 76), (Cq138, .int 77), (Cq139, .int 78), (Cq140, .int 79), (Cq141, .int 80), (Cq142, .int 81), (Cq143, .int 82), (Cq144, .int 83), (Cq152, .int 84), (Cq153, .int 85), (Cq154, .int 86), (Cq155, .int 87), (Cq156, .int 88), (Cq162, .int 89), (Cq170, .int 90), (Cq171, .int 91), (Cq176, .int 92), (Cq177, .int 93), (Cq178, .int 94), (Cq179, .int 95), (.tup [Cq40, Cq8], .int 96), (Cq187, .int 97), (Cq188, .int 98), (Cq189, .int 99), (Cq197, .int 100), (Cq205, .int 101), (Cq206, .int 102), (Cq207, .int 103), (Cq208, .int 104), (Cq215, .int 105), (Cq216, .int 106), (Cq217, .int 107), (Cq218, .int 108), (Cq225, .int 109), (Cq226, .int 110), (Cq227, .int 111), (Cq228, .int 112), (Cq229, .int 113), (Cq230, .int 114), (Cq238, .int 115), (Cq239, .int 116), (Cq240, .int 117), (Cq241, .int 118), (Cq242, .int 119), (Cq250, .int 120), (.tup [Cq13, Cq40], .int 121), (.tup [Cq15, Cq43], .int 122), (Cq256, .int 123), (Cq262, .int 124), (Cq267, .int 125), (Cq275, .int 126), (Cq276, .int 127), (Cq282, .int 128), (Cq283, .int 129), (Cq284, .int 130), (Cq292, .int 131), (Cq293, .int 132), (Cq299, .int 133), (Cq300, .int 134), (Cq306, .int 135)]
def Cq311 : D := .lst [.int 1, .int 0, .int 2, .int 1, .int 0, .int 0, .int 0, .int 0, .int 0, .int 0, .int 2, .int 0, .int 0, .int 2, .int 0, .int 0, .int 2, .int 1, .int 0, .int 0, .int 0, .int 0, .int 0, .int 2, .int 0, .int 0, .int 0, .int 0, .int 0, .int 1, .int 0, .int 2, .int 2, .int 0, .int 2, .int 0, .int 0, .int 2, .int 0, .int 0, .int 2, .int 0, .int 2, .int 0, .int 1, .int 0, .int 0, .int 0, .int 2, .int 0, .int 0, .int 0, .int 2, .int 0, .int 0, .int 1, .int 0, .int 2, .int 1, .int 0, .int 0, .int 0, .int 0, .int 2, .int 0, .int 0, .int 0, .int 1, .int 0, .int 2, .int 2, .int 1, .int 0, .int 0, .int 0, .int 2, .int 0, .int 2, .int 1, .int 2, .int 2, .int 0, .int 0, .int 0, .int 2, .int 0, .int 0, .int 0, .int 2, .int 1, .int 1, .int 0, .int 0, .int 2, .int 0, .int 0, .int 0, .int 2, .int 2, .int 0, .int 0, .int 0, .int 0, .int 2, .int 0, .int 2, .int 2, .int 0, .int 0, .int 1, .int 0, .int 0, .int 0, .int 0, .int 2, .int 2, .int 1, .int 0, .int 2, .int 2, .int 0, .int 0, .int 0, .int 0, .int 2, .int 0, .int 0, .int 2, .int 0, .int 0, .int 0, .int 2, .int 0, .int 0, .int 2, .int 0]
def Cq312 : D := .lst [.int 0, .int 1, .int 2, .int 0, .int 1, .int 1, .int 3, .int 1, .int 4, .int 3, .int 2, .int 1, .int 5, .int 2, .int 6, .int 4, .int 2, .int 0, .int 4, .int 6, .int 4, .int 3, .int 1, .int 2, .int 1, .int 4, .int 1, .int 1, .int 4, .int 0, .int 1, .int 2, .int 7, .int 1, .int 2, .int 1, .int 8, .int 7, .int 1, .int 4, .int 7, .int 8, .int 2, .int 6, .int 0, .int 4, .int 6, .int 4, .int 7, .int 6, .int 1, .int 1, .int 2, .int 1, .int 4, .int 0, .int 1, .int 2, .int 0, .int 3, .int 1, .int 4, .int 4, .int 2, .int 1, .int 6, .int 4, .int 0, .int 1, .int 2, .int 2, .int 0, .int 4, .int 6, .int 5, .int 2, .int 4, .int 2, .int 0, .int 2, .int 7, .int 1, .int 6, .int 8, .int 7, .int 1, .int 4, .int 8, .int 2, .int 0, .int 0, .int 4, .int 3, .int 2, .int 6, .int 4, .int 1, .int 2, .int 2, .int 1, .int 4, .int 4, .int 4, .int 2, .int 6, .int 7, .int 2, .int 6, .int 4, .int 0, .int 6, .int 4, .int 4, .int 4, .int 2, .int 2, .int 0, .int 4, .int 2, .int 2, .int 6, .int 4, .int 1, .int 6, .int 2, .int 4, .int 4, .int 2, .int 6, .int 4, .int 4, .int 2, .int 6, .int 4, .int 2, .int 4]
def Cq313 : D := .tup [.int 1, .int 1, .int 0, .int 2, .int 1, .int 0]
def Cq314 : D := .tup [.int 0, .int 0, .int 0, .int 0, .int 0, .int 0]
def Cq315 : D := .tup [.int 2, .int 2, .int 0, .int 0, .int 2, .int 0]
def Cq316 : D := .tup [.int 0, .int 0, .int 1, .int 0, .int 2, .int 1]
def Cq317 : D := .tup [.int 0, .int 0, .int 2, .int 0, .int 0, .int 2]
def Cq318 : D := .tup [.int 0, .int 0, .int 0, .int 1, .int 0, .int 2]
def Cq319 : D := .tup [.int 0, .int 0, .int 0, .int 2, .int 0, .int 0]
def Cq320 : D := .tup [.int 2, .int 2, .int 1, .int 0, .int 2, .int 1]
def Cq321 : D := .tup [.int 0, .int 0, .int 2, .int 1, .int 0, .int 2]
def Cq322 : D := .dct [(Cq313, .int 0), (Cq314, .int 1), (Cq315, .int 2), (Cq316, .int 3), (Cq317, .int 4), (Cq318, .int 5), (Cq319, .int 6), (Cq320, .int 7), (Cq321, .int 8)]
def Cq323 : D := .lst [.int 0, .int 1, .int 2, .int 3, .int 4, .int 5, .int 6, .int 7, .int 8, .int 9, .int 10, .int 11, .int 12, .int 13, .int 14, .int 15, .int 16, .int 3, .int 17, .int 18, .int 19, .int 9, .int 20, .int 10, .int 11, .int 21, .int 22, .int 23, .int 21, .int 0, .int 1, .int 2, .int 24, .int 25, .int 26, .int 27, .int 28, .int 24, .int 25, .int 29, .int 30, .int 28, .int 31, .int 32, .int 3, .int 17, .int 33, .int 34, .int 30, .int 35, .int 36, .int 37, .int 10, .int 11, .int 21, .int 3, .int 4, .int 2, .int 3, .int 9, .int 38, .int 8, .int 39, .int 26, .int 27, .int 40, .int 41, .int 3, .int 4, .int 2, .int 2, .int 3, .int 8, .int 42, .int 43, .int 44, .int 17, .int 16, .int 3, .int 2, .int 30, .int 45, .int 46, .int 47, .int 30, .int 45, .int 29, .int 47, .int 48, .int 3, .int 3, .int 17, .int 9, .int 13, .int 14, .int 17, .int 49, .int 50, .int 26, .int 27, .int 41, .int 39, .int 15, .int 16, .int 33, .int 30, .int 31, .int 32, .int 17, .int 3, .int 51, .int 19, .int 52, .int 17, .int 16, .int 16, .int 3, .int 19, .int 44, .int 16, .int 53, .int 41, .int 54, .int 42, .int 50, .int 29, .int 52, .int 55, .int 53, .int 34, .int 39, .int 55, .int 46, .int 34, .int 48, .int 52]
def Cq324 : D := .tup [.int 0, .int 0, .int 1, .int 2, .int 0, .int 1]
def Cq325 : D := .tup [.int 1, .int 1, .int 3, .int 1, .int 4, .int 3]
def Cq326 : D := .tup [.int 2, .int 2, .int 1, .int 5, .int 2, .int 6]
def Cq327 : D := .tup [.int 0, .int 0, .int 4, .int 2, .int 0, .int 4]
def Cq328 : D := .tup [.int 1, .int 1, .int 3, .int 6, .int 4, .int 3]
def Cq329 : D := .tup [.int 1, .int 1, .int 1, .int 1, .int 1, .int 1]
def Cq330 : D := .tup [.int 3, .int 1, .int 0, .int 1, .int 2, .int 0]
def Cq331 : D := .tup [.int 1, .int 1, .int 1, .int 3, .int 1, .int 4]
def Cq332 : D := .tup [.int 4, .int 1, .int 2, .int 1, .int 5, .int 2]
def Cq333 : D := .tup [.int 3, .int 1, .int 0, .int 4, .int 2, .int 0]
def Cq334 : D := .tup [.int 2, .int 2, .int 1, .int 1, .int 2, .int 1]
def Cq335 : D := .tup [.int 1, .int 1, .int 4, .int 1, .int 1, .int 4]
def Cq336 : D := .tup [.int 5, .int 1, .int 1, .int 0, .int 1, .int 2]
def Cq337 : D := .tup [.int 2, .int 2, .int 1, .int 1, .int 7, .int 1]
def Cq338 : D := .tup [.int 6, .int 1, .int 4, .int 2, .int 1, .int 8]
def Cq339 : D := .tup [.int 4, .int 1, .int 7, .int 1, .int 4, .int 7]
def Cq340 : D := .tup [.int 2, .int 2, .int 1, .int 8, .int 2, .int 6]
def Cq341 : D := .tup [.int 4, .int 1, .int 7, .int 6, .int 4, .int 7]
def Cq342 : D := .tup [.int 6, .int 1, .int 1, .int 7, .int 1, .int 4]
def Cq343 : D := .tup [.int 4, .int 1, .int 2, .int 1, .int 8, .int 2]
def Cq344 : D := .tup [.int 1, .int 1, .int 1, .int 6, .int 1, .int 1]
def Cq345 : D := .tup [.int 4, .int 1, .int 2, .int 1, .int 1, .int 2]
def Cq346 : D := .tup [.int 1, .int 1, .int 1, .int 4, .int 1, .int 1]
def Cq347 : D := .tup [.int 1, .int 1, .int 1, .int 1, .int 6, .int 1]
def Cq348 : D := .tup [.int 7, .int 2, .int 0, .int 1, .int 2, .int 0]
def Cq349 : D := .tup [.int 1, .int 1, .int 4, .int 3, .int 1, .int 4]
def Cq350 : D := .tup [.int 2, .int 2, .int 1, .int 4, .int 2, .int 1]
def Cq351 : D := .tup [.int 1, .int 1, .int 4, .int 1, .int 6, .int 4]
def Cq352 : D := .tup [.int 8, .int 1, .int 2, .int 0, .int 1, .int 2]
def Cq353 : D := .tup [.int 4, .int 1, .int 2, .int 6, .int 5, .int 2]
def Cq354 : D := .tup [.int 7, .int 2, .int 0, .int 4, .int 2, .int 0]
def Cq355 : D := .tup [.int 2, .int 2, .int 1, .int 4, .int 7, .int 1]
def Cq356 : D := .tup [.int 6, .int 1, .int 4, .int 2, .int 6, .int 8]
def Cq357 : D := .tup [.int 6, .int 1, .int 4, .int 7, .int 1, .int 4]
def Cq358 : D := .tup [.int 4, .int 1, .int 2, .int 6, .int 8, .int 2]
def Cq359 : D := .tup [.int 6, .int 1, .int 1, .int 2, .int 1, .int 1]
def Cq360 : D := .tup [.int 1, .int 1, .int 1, .int 1, .int 4, .int 1]
def Cq361 : D := .tup [.int 1, .int 1, .int 1, .int 1, .int 1, .int 6]
def Cq362 : D := .tup [.int 1, .int 1, .int 1, .int 3, .int 6, .int 4]
def Cq363 : D := .tup [.int 4, .int 1, .int 2, .int 6, .int 1, .int 2]
def Cq364 : D := .tup [.int 6, .int 1, .int 1, .int 2, .int 6, .int 1]
def Cq365 : D := .tup [.int 4, .int 1, .int 2, .int 1, .int 4, .int 2]
def Cq366 : D := .tup [.int 6, .int 1, .int 4, .int 2, .int 1, .int 4]
def Cq367 : D := .tup [.int 5, .int 1, .int 1, .int 0, .int 4, .int 2]
def Cq368 : D := .tup [.int 2, .int 2, .int 1, .int 1, .int 7, .int 6]
def Cq369 : D := .tup [.int 1, .int 1, .int 4, .int 3, .int 6, .int 4]
def Cq370 : D := .tup [.int 6, .int 1, .int 4, .int 2, .int 6, .int 4]
def Cq371 : D := .tup [.int 8, .int 1, .int 2, .int 0, .int 4, .int 2]
def Cq372 : D := .tup [.int 2, .int 2, .int 1, .int 4, .int 7, .int 6]
def Cq373 : D := .tup [.int 1, .int 1, .int 1, .int 6, .int 4, .int 1]
def Cq374 : D := .tup [.int 2, .int 2, .int 1, .int 1, .int 2, .int 6]
def Cq375 : D := .tup [.int 6, .int 1, .int 1, .int 7, .int 6, .int 4]
def Cq376 : D := .tup [.int 4, .int 1, .int 2, .int 6, .int 4, .int 2]
def Cq377 : D := .tup [.int 6, .int 1, .int 4, .int 7, .int 6, .int 4]
def Cq378 : D := .tup [.int 1, .int 1, .int 1, .int 4, .int 1, .int 6]
def Cq379 : D := .tup [.int 2, .int 2, .int 1, .int 4, .int 2, .int 6]
def Cq380 : D := .dct [(Cq324, .int 0), (Cq325, .int 1), (Cq326, .int 2), (Cq327, .int 3), (Cq328, .int 4), (Cq329, .int 5), (Cq330, .int 6), (Cq331, .int 7), (Cq332, .int 8), (Cq333, .int 9), (Cq334, .int 10), (Cq335, .int 11), (Cq336, .int 12), (Cq337, .int 13), (Cq338, .int 14), (Cq339, .int 15), (Cq340, .int 16), (Cq341, .int 17), (Cq342, .int 18), (Cq343, .int 19), (Cq344, .int 20), (Cq345, .int 21), (Cq346, .int 22), (Cq347, .int 23), (Cq348, .int 24), (Cq349, .int 25), (Cq350, .int 26), (Cq351, .int 27), (Cq352, .int 28), (Cq353, .int 29), (Cq354, .int 30), (Cq355, .int 31), (Cq356, .int 32), (Cq357, .int 33), (Cq358, .int 34), (Cq359, .int 35), (Cq360, .int 36), (Cq361, .int 37), (Cq362, .int 38), (Cq363, .int 39), (Cq364, .int 40), (Cq365, .int 41), (Cq366, .int 42), (Cq367, .int 43), (Cq368, .int 44), (Cq369, .int 45), (Cq370, .int 46), (Cq371, .int 47), (Cq372, .int 48), (Cq373, .int 49), (Cq374, .int 50), (Cq375, .int 51), (Cq376, .int 52), (Cq377, .int 53), (Cq378, .int 54), (Cq379, .int 55)]
def Cq381 : D := .tup [.int 0, .int 0, .int 1, .int 2, .int 3, .int 4]
def Cq382 : D := .tup [.int 1, .int 5, .int 6, .int 7, .int 8, .int 9]
def Cq383 : D := .tup [.int 2, .int 10, .int 11, .int 12, .int 13, .int 14]
def Cq384 : D := .tup [.int 3, .int 0, .int 15, .int 16, .int 3, .int 17]
def Cq385 : D := .tup [.int 4, .int 5, .int 6, .int 18, .int 19, .int 9]
def Cq386 : D := .tup [.int 5, .int 5, .int 5, .int 5, .int 5, .int 5]
def Cq387 : D := .tup [.int 6, .int 5, .int 0, .int 1, .int 2, .int 3]
def Cq388 : D := .tup [.int 7, .int 5, .int 5, .int 6, .int 7, .int 8]
def Cq389 : D := .tup [.int 8, .int 5, .int 10, .int 11, .int 12, .int 13]
def Cq390 : D := .tup [.int 9, .int 5, .int 0, .int 15, .int 16, .int 3]
def Cq391 : D := .tup [.int 10, .int 10, .int 11, .int 20, .int 10, .int 11]
def Cq392 : D := .tup [.int 11, .int 5, .int 21, .int 22, .int 23, .int 21]
def Cq393 : D := .tup [.int 12, .int 5, .int 5, .int 0, .int 1, .int 2]
def Cq394 : D := .tup [.int 13, .int 10, .int 11, .int 20, .int 24, .int 25]
def Cq395 : D := .tup [.int 14, .int 5, .int 21, .int 26, .int 27, .int 28]
def Cq396 : D := .tup [.int 15, .int 5, .int 24, .int 25, .int 29, .int 30]
def Cq397 : D := .tup [.int 16, .int 10, .int 11, .int 28, .int 31, .int 32]
def Cq398 : D := .tup [.int 17, .int 5, .int 24, .int 33, .int 34, .int 30]
def Cq399 : D := .tup [.int 18, .int 5, .int 5, .int 24, .int 25, .int 29]
def Cq400 : D := .tup [.int 19, .int 5, .int 10, .int 11, .int 28, .int 31]
def Cq401 : D := .tup [.int 20, .int 5, .int 5, .int 35, .int 36, .int 37]
def Cq402 : D := .tup [.int 21, .int 5, .int 10, .int 11, .int 20, .int 10]
def Cq403 : D := .tup [.int 22, .int 5, .int 5, .int 21, .int 22, .int 23]
def Cq404 : D := .tup [.int 23, .int 5, .int 5, .int 5, .int 35, .int 36]
def Cq405 : D := .tup [.int 24, .int 10, .int 3, .int 4, .int 2, .int 3]
def Cq406 : D := .tup [.int 25, .int 5, .int 21, .int 9, .int 38, .int 8]
def Cq407 : D := .tup [.int 26, .int 10, .int 11, .int 39, .int 26, .int 27]
def Cq408 : D := .tup [.int 27, .int 5, .int 21, .int 22, .int 40, .int 41]
def Cq409 : D := .tup [.int 28, .int 5, .int 10, .int 3, .int 4, .int 2]
def Cq410 : D := .tup [.int 29, .int 5, .int 10, .int 42, .int 43, .int 44]
def Cq411 : D := .tup [.int 30, .int 10, .int 3, .int 17, .int 16, .int 3]
def Cq412 : D := .tup [.int 31, .int 10, .int 11, .int 39, .int 30, .int 45]
def Cq413 : D := .tup [.int 32, .int 5, .int 21, .int 26, .int 46, .int 47]
def Cq414 : D := .tup [.int 33, .int 5, .int 21, .int 30, .int 45, .int 29]
def Cq415 : D := .tup [.int 34, .int 5, .int 10, .int 42, .int 47, .int 48]
def Cq416 : D := .tup [.int 35, .int 5, .int 5, .int 10, .int 11, .int 20]
def Cq417 : D := .tup [.int 36, .int 5, .int 5, .int 5, .int 21, .int 22]
def Cq418 : D := .tup [.int 37, .int 5, .int 5, .int 5, .int 5, .int 35]
def Cq419 : D := .tup [.int 38, .int 5, .int 5, .int 6, .int 18, .int 19]
def Cq420 : D := .tup [.int 39, .int 5, .int 10, .int 42, .int 49, .int 50]
def Cq421 : D := .tup [.int 40, .int 5, .int 5, .int 10, .int 42, .int 49]
def Cq422 : D := .tup [.int 41, .int 5, .int 10, .int 11, .int 39, .int 26]
def Cq423 : D := .tup [.int 42, .int 5, .int 21, .int 26, .int 27, .int 39]
def Cq424 : D := .tup [.int 43, .int 5, .int 5, .int 0, .int 15, .int 16]
def Cq425 : D := .tup [.int 44, .int 10, .int 11, .int 20, .int 24, .int 33]
def Cq426 : D := .tup [.int 45, .int 5, .int 21, .int 9, .int 51, .int 19]
def Cq427 : D := .tup [.int 46, .int 5, .int 21, .int 26, .int 46, .int 52]
def Cq428 : D := .tup [.int 47, .int 5, .int 10, .int 3, .int 17, .int 16]
def Cq429 : D := .tup [.int 48, .int 10, .int 11, .int 39, .int 30, .int 53]
def Cq430 : D := .tup [.int 49, .int 5, .int 5, .int 35, .int 41, .int 54]
def Cq431 : D := .tup [.int 50, .int 10, .int 11, .int 20, .int 10, .int 42]
def Cq432 : D := .tup [.int 51, .int 5, .int 5, .int 24, .int 33, .int 34]
def Cq433 : D := .tup [.int 52, .int 5, .int 10, .int 42, .int 52, .int 55]
def Cq434 : D := .tup [.int 53, .int 5, .int 21, .int 30, .int 53, .int 34]
def Cq435 : D := .tup [.int 54, .int 5, .int 5, .int 21, .int 22, .int 40]
def Cq436 : D := .tup [.int 55, .int 10, .int 11, .int 39, .int 26, .int 46]
def Cq437 : D := .dct [(Cq381, .int 0), (Cq382, .int 1), (Cq383, .int 2), (Cq384, .int 3), (Cq385, .int 4), (Cq386, .int 5), (Cq387, .int 6), (Cq388, .int 7), (Cq389, .int 8), (Cq390, .int 9), (Cq391, .int 10), (Cq392, .int 11), (Cq393, .int 12), (Cq394, .int 13), (Cq395, .int 14), (Cq396, .int 15), (Cq397, .int 16), (Cq398, .int 17), (Cq399, .int 18), (Cq400, .int 19), (Cq401, .int 20), (Cq402, .int 21), (Cq403, .int 22), (Cq404, .int 23), (Cq405, .int 24), (Cq406, .int 25), (Cq407, .int 26), (Cq408, .int 27), (Cq409, .int 28), (Cq410, .int 29), (Cq411, .int 30), (Cq412, .int 31), (Cq413, .int 32), (Cq414, .int 33), (Cq415, .int 34), (Cq416, .int 35), (Cq417, .int 36), (Cq418, .int 37), (Cq419, .int 38), (Cq420, .int 39), (Cq421, .int 40), (Cq422, .int 41), (Cq423, .int 42), (Cq424, .int 43), (Cq425, .int 44), (Cq426, .int 45), (Cq427, .int 46), (Cq428, .int 47), (Cq429, .int 48), (Cq430, .int 49), (Cq431, .int 50), (Cq432, .int 51), (Cq433, .int 52), (Cq434, .int 53), (Cq435, .int 54), (Cq436, .int 55)]
def Cq438 : D := .lst [.int 0, .int 1, .int 2, .int 3, .int 4, .int 5, .int 6, .int 7, .int 8, .int 9, .int 10, .int 11, .int 12, .int 13, .int 14, .int 15, .int 16, .int 17, .int 18, .int 19, .int 20, .int 21, .int 22, .int 23, .int 24, .int 25, .int 26, .int 27, .int 28, .int 29, .int 30, .int 31, .int 32, .int 33, .int 34, .int 35, .int 36, .int 37, .int 38, .int 39, .int 40, .int 41, .int 42, .int 43, .int 44, .int 45, .int 46, .int 47, .int 48, .int 49, .int 50, .int 51, .int 52, .int 53, .int 54, .int 55]
def Cq439 : D := .lst [.int 0, .int 1, .int 2, .int 3, .int 4, .int 5, .int 6, .int 7, .int 8, .int 9, .int 10, .int 11, .int 12, .int 13, .int 14, .int 15, .int 16, .int 18, .int 19, .int 20, .int 22, .int 25, .int 26, .int 27, .int 32, .int 33, .int 34, .int 35, .int 36, .int 39, .int 40, .int 42, .int 43, .int 46, .int 47, .int 49, .int 50, .int 51, .int 60, .int 62, .int 65, .int 66, .int 73, .int 74, .int 75, .int 81, .int 82, .int 83, .int 88, .int 96, .int 97, .int 110, .int 112, .int 120, .int 122, .int 127]
def Cq440 : D := .tup [.int 0, .int 1, .int 2, .int 3, .int 4]
def Cq441 : D := .tup [.int 5, .int 6, .int 7, .int 8, .int 9]
def Cq442 : D := .tup [.int 10, .int 11, .int 12, .int 13, .int 14]
def Cq443 : D := .tup [.int 0, .int 15, .int 16, .int 3, .int 17]
def Cq444 : D := .tup [.int 5, .int 6, .int 18, .int 19, .int 9]
def Cq445 : D := .tup [.int 5, .int 5, .int 5, .int 5, .int 5]
def Cq446 : D := .tup [.int 5, .int 0, .int 1, .int 2, .int 3]
def Cq447 : D := .tup [.int 5, .int 5, .int 6, .int 7, .int 8]
def Cq448 : D := .tup [.int 5, .int 10, .int 11, .int 12, .int 13]
def Cq449 : D := .tup [.int 5, .int 0, .int 15, .int 16, .int 3]
def Cq450 : D := .tup [.int 10, .int 11, .int 20, .int 10, .int 11]
def Cq451 : D := .tup [.int 5, .int 21, .int 22, .int 23, .int 21]
def Cq452 : D := .tup [.int 5, .int 5, .int 0, .int 1, .int 2]
def Cq453 : D := .tup [.int 10, .int 11, .int 20, .int 24, .int 25]
def Cq454 : D := .tup [.int 5, .int 21, .int 26, .int 27, .int 28]
def Cq455 : D := .tup [.int 5, .int 24, .int 25, .int 29, .int 30]
def Cq456 : D := .tup [.int 10, .int 11, .int 28, .int 31, .int 32]
def Cq457 : D := .tup [.int 5, .int 24, .int 33, .int 34, .int 30]
def Cq458 : D := .tup [.int 5, .int 5, .int 24, .int 25, .int 29]
def Cq459 : D := .tup [.int 5, .int 10, .int 11, .int 28, .int 31]
def Cq460 : D := .tup [.int 5, .int 5, .int 35, .int 36, .int 37]
def Cq461 : D := .tup [.int 5, .int 10, .int 11, .int 20, .int 10]
def Cq462 : D := .tup [.int 5, .int 5, .int 21, .int 22, .int 23]
def Cq463 : D := .tup [.int 5, .int 5, .int 5, .int 35, .int 36]
def Cq464 : D := .tup [.int 10, .int 3, .int 4, .int 2, .int 3]
def Cq465 : D := .tup [.int 5, .int 21, .int 9, .int 38, .int 8]
def Cq466 : D := .tup [.int 10, .int 11, .int 39, .int 26, .int 27]
def Cq467 : D := .tup [.int 5, .int 21, .int 22, .int 40, .int 41]
def Cq468 : D := .tup [.int 5, .int 10, .int 3, .int 4, .int 2]
def Cq469 : D := .tup [.int 5, .int 10, .int 42, .int 43, .int 44]
def Cq470 : D := .tup [.int 10, .int 3, .int 17, .int 16, .int 3]
def Cq471 : D := .tup [.int 10, .int 11, .int 39, .int 30, .int 45]
def Cq472 : D := .tup [.int 5, .int 21, .int 26, .int 46, .int 47]
def Cq473 : D := .tup [.int 5, .int 21, .int 30, .int 45, .int 29]
def Cq474 : D := .tup [.int 5, .int 10, .int 42, .int 47, .int 48]
def Cq475 : D := .tup [.int 5, .int 5, .int 10, .int 11, .int 20]
def Cq476 : D := .tup [.int 5, .int 5, .int 5, .int 21, .int 22]
def Cq477 : D := .tup [.int 5, .int 5, .int 5, .int 5, .int 35]
def Cq478 : D := .tup [.int 5, .int 5, .int 6, .int 18, .int 19]
def Cq479 : D := .tup [.int 5, .int 10, .int 42, .int 49, .int 50]
def Cq480 : D := .tup [.int 5, .int 5, .int 10, .int 42, .int 49]
def Cq481 : D := .tup [.int 5, .int 10, .int 11, .int 39, .int 26]
def Cq482 : D := .tup [.int 5, .int 21, .int 26, .int 27, .int 39]
def Cq483 : D := .tup [.int 5, .int 5, .int 0, .int 15, .int 16]
def Cq484 : D := .tup [.int 10, .int 11, .int 20, .int 24, .int 33]
def Cq485 : D := .tup [.int 5, .int 21, .int 9, .int 51, .int 19]
def Cq486 : D := .tup [.int 5, .int 21, .int 26, .int 46, .int 52]
def Cq487 : D := .tup [.int 5, .int 10, .int 3, .int 17, .int 16]
def Cq488 : D := .tup [.int 10, .int 11, .int 39, .int 30, .int 53]
def Cq489 : D := .tup [.int 5, .int 5, .int 35, .int 41, .int 54]
def Cq490 : D := .tup [.int 10, .int 11, .int 20, .int 10, .int 42]
def Cq491 : D := .tup [.int 5, .int 5, .int 24, .int 33, .int 34]
def Cq492 : D := .tup [.int 5, .int 10, .int 42, .int 52, .int 55]
def Cq493 : D := .tup [.int 5, .int 21, .int 30, .int 53, .int 34]
def Cq494 : D := .tup [.int 5, .int 5, .int 21, .int 22, .int 40]
def Cq495 : D := .tup [.int 10, .int 11, .int 39, .int 26, .int 46]
def Cq496 : D := .tup [Cq440, Cq441, Cq442, Cq443, Cq444, Cq445, Cq446, Cq447, Cq448, Cq449, Cq450, Cq451, Cq452, Cq453, Cq454, Cq455, Cq456, Cq457, Cq458, Cq459, Cq460, Cq461, Cq462, Cq463, Cq464, Cq465, Cq466, Cq467, Cq468, Cq469, Cq470, Cq471, Cq472, Cq473, Cq474, Cq475, Cq476, Cq477, Cq478, Cq479, Cq480, Cq481, Cq482, Cq483, Cq484, Cq485, Cq486, Cq487, Cq488, Cq489, Cq490, Cq491, Cq492, Cq493, Cq494, Cq495]
def Cq497 : D := .tup [.tup [.bl true, .bl false], .tup [.bl false, .bl false], .tup [.bl false, .bl true], .tup [.bl true, .bl false], .tup [.bl false, .bl false], .tup [.bl false, .bl false], .tup [.bl false, .bl false], .tup [.bl false, .bl false], .tup [.bl false, .bl false], .tup [.bl false, .bl false], .tup [.bl false, .bl true], .tup [.bl false, .bl false], .tup [.bl false, .bl false], .tup [.bl false, .bl true], .tup [.bl false, .bl false], .tup [.bl false, .bl false], .tup [.bl false, .bl true], .tup [.bl false, .bl false], .tup [.bl false, .bl false], .tup [.bl false, .bl false], .tup [.bl false, .bl false], .tup [.bl false, .bl false], .tup [.bl false, .bl false], .tup [.bl false, .bl false], .tup [.bl false, .bl true], .tup [.bl false, .bl false], .tup [.bl false, .bl true], .tup [.bl false, .bl false], .tup [.bl false, .bl false], .tup [.bl false, .bl false], .tup [.bl false, .bl true], .tup [.bl false, .bl true], .tup [.bl false, .bl false], .tup [.bl false, .bl false], .tup [.bl false, .bl false], .tup [.bl false, .bl false], .tup [.bl false, .bl false], .tup [.bl false, .bl false], .tup [.bl false, .bl false], .tup [.bl false, .bl false], .tup [.bl false, .bl false], .tup [.bl false, .bl false], .tup [.bl false, .bl false], .tup [.bl false, .bl false], .tup [.bl false, .bl true], .tup [.bl false, .bl false], .tup [.bl false, .bl false], .tup [.bl false, .bl false], .tup [.bl false, .bl true], .tup [.bl false, .bl false], .tup [.bl false, .bl true], .tup [.bl false, .bl false], .tup [.bl false, .bl false], .tup [.bl false, .bl false], .tup [.bl false, .bl false], .tup [.bl false, .bl true]]
def Ce0 : List Sl := [.cel (.lst [.tup [Cq0]]), .un, .un, .un, .un, .un, .un, .un, .un, .un, .un, .un, .un, .un, .un, .un, .un, .un, .un]
def Ce1 : List Sl := [.cel (.lst [.tup [Cq0]]), .cel (.lst []), .un, .un, .un, .un, .un, .un, .un, .un, .un, .un, .un, .un, .un, .un, .un, .un, .un]
def Ce2 : List Sl := [.cel (.lst [.tup [Cq0]]), .cel (.lst []), .cel (.dct []), .un, .un, .un, .un, .un, .un, .un, .un, .un, .un, .un, .un, .un, .un, .un, .un]
def Ce3 : List Sl := [.cel (.lst [.tup [Cq0]]), .cel (.lst []), .cel Cq1, .un, .un, .un, .un, .un, .un, .un, .un, .un, .un, .un, .un, .un, .un, .un, .un]
def Ce4 : List Sl := [.cel (.lst [.tup [Cq0]]), .cel (.lst []), .cel Cq1, .un, .un, .un, .un, .un, .un, .un, .un, .un, .un, .un, .un, .un, .un, .un, .un]
def Ce5 : List Sl := [.cel Cq33, .cel Cq38, .cel Cq39, .dat (.int 3), .un, .un, .un, .un, .un, .un, .un, .dat Cq37, .dat (.int 4), .un, .un, .un, .dat Cq32, .un, .un]
def Ce6 : List Sl := [.cel Cq45, .cel Cq50, .cel Cq51, .dat (.int 7), .un, .un, .un, .un, .un, .un, .un, .dat Cq49, .dat (.int 4), .un, .un, .un, .dat (.tup [Cq13, Cq14]), .un, .un]
def Ce7 : List Sl := [.cel Cq52, .cel Cq57, .cel Cq58, .dat (.int 11), .un, .un, .un, .un, .un, .un, .un, .dat Cq56, .dat (.int 4), .un, .un, .un, .dat (.tup [Cq13, Cq31]), .un, .un]
def Ce8 : List Sl := [.cel Cq68, .cel Cq73, .cel Cq74, .dat (.int 15), .un, .un, .un, .un, .un, .un, .un, .dat Cq72, .dat (.int 4), .un, .un, .un, .dat Cq67, .un, .un]
def Ce9 : List Sl := [.cel Cq83, .cel Cq88, .cel Cq89, .dat (.int 19), .un, .un, .un, .un, .un, .un, .un, .dat Cq87, .dat (.int 4), .un, .un, .un, .dat Cq66, .un, .un]
def Ce10 : List Sl := [.cel Cq92, .cel Cq97, .cel Cq98, .dat (.int 23), .un, .un, .un, .un, .un, .un, .un, .dat Cq96, .dat (.int 4), .un, .un, .un, .dat Cq91, .un, .un]
def Ce11 : List Sl := [.cel Cq100, .cel Cq105, .cel Cq106, .dat (.int 27), .un, .un, .un, .un, .un, .un, .un, .dat Cq104, .dat (.int 4), .un, .un, .un, .dat (.tup [Cq40]), .un, .un]
def Ce12 : List Sl := [.cel Cq100, .cel Cq108, .cel Cq106, .dat (.int 31), .un, .un, .un, .un, .un, .un, .un, .dat Cq36, .dat (.int 4), .un, .un, .un, .dat Cq25, .un, .un]
def Ce13 : List Sl := [.cel Cq115, .cel Cq120, .cel Cq121, .dat (.int 35), .un, .un, .un, .un, .un, .un, .un, .dat Cq119, .dat (.int 4), .un, .un, .un, .dat Cq114, .un, .un]
def Ce14 : List Sl := [.cel Cq130, .cel Cq135, .cel Cq136, .dat (.int 39), .un, .un, .un, .un, .un, .un, .un, .dat Cq134, .dat (.int 4), .un, .un, .un, .dat Cq129, .un, .un]
def Ce15 : List Sl := [.cel Cq145, .cel Cq150, .cel Cq151, .dat (.int 43), .un, .un, .un, .un, .un, .un, .un, .dat Cq149, .dat (.int 4), .un, .un, .un, .dat Cq144, .un, .un]
def Ce16 : List Sl := [.cel Cq157, .cel Cq160, .cel Cq161, .dat (.int 47), .un, .un, .un, .un, .un, .un, .un, .dat Cq159, .dat (.int 4), .un, .un, .un, .dat Cq156, .un, .un]
def Ce17 : List Sl := [.cel Cq163, .cel Cq168, .cel Cq169, .dat (.int 51), .un, .un, .un, .un, .un, .un, .un, .dat Cq167, .dat (.int 4), .un, .un, .un, .dat (.tup [Cq22]), .un, .un]
def Ce18 : List Sl := [.cel Cq172, .cel Cq174, .cel Cq175, .dat (.int 55), .un, .un, .un, .un, .un, .un, .un, .dat Cq173, .dat (.int 4), .un, .un, .un, .dat Cq171, .un, .un]
def Ce19 : List Sl := [.cel Cq180, .cel Cq185, .cel Cq186, .dat (.int 59), .un, .un, .un, .un, .un, .un, .un, .dat Cq184, .dat (.int 4), .un, .un, .un, .dat Cq170, .un, .un]
def Ce20 : List Sl := [.cel Cq190, .cel Cq195, .cel Cq196, .dat (.int 63), .un, .un, .un, .un, .un, .un, .un, .dat Cq194, .dat (.int 4), .un, .un, .un, .dat Cq189, .un, .un]
def Ce21 : List Sl := [.cel Cq198, .cel Cq202, .cel Cq203, .dat (.int 67), .un, .un, .un, .un, .un, .un, .un, .dat Cq173, .dat (.int 4), .un, .un, .un, .dat Cq171, .un, .un]
def Ce22 : List Sl := [.cel Cq198, .cel Cq204, .cel Cq203, .dat (.int 71), .un, .un, .un, .un, .un, .un, .un, .dat Cq183, .dat (.int 4), .un, .un, .un, .dat Cq179, .un, .un]
def Ce23 : List Sl := [.cel Cq209, .cel Cq213, .cel Cq214, .dat (.int 75), .un, .un, .un, .un, .un, .un, .un, .dat Cq212, .dat (.int 4), .un, .un, .un, .dat Cq208, .un, .un]
def Ce24 : List Sl := [.cel Cq219, .cel Cq223, .cel Cq224, .dat (.int 79), .un, .un, .un, .un, .un, .un, .un, .dat Cq182, .dat (.int 4), .un, .un, .un, .dat Cq178, .un, .un]
def Ce25 : List Sl := [.cel Cq231, .cel Cq236, .cel Cq237, .dat (.int 83), .un, .un, .un, .un, .un, .un, .un, .dat Cq235, .dat (.int 4), .un, .un, .un, .dat Cq230, .un, .un]
def Ce26 : List Sl := [.cel Cq243, .cel Cq248, .cel Cq249, .dat (.int 87), .un, .un, .un, .un, .un, .un, .un, .dat Cq247, .dat (.int 4), .un, .un, .un, .dat Cq242, .un, .un]
def Ce27 : List Sl := [.cel Cq251, .cel Cq253, .cel Cq254, .dat (.int 91), .un, .un, .un, .un, .un, .un, .un, .dat Cq86, .dat (.int 4), .un, .un, .un, .dat Cq82, .un, .un]
def Ce28 : List Sl := [.cel Cq251, .cel Cq255, .cel Cq254, .dat (.int 95), .un, .un, .un, .un, .un, .un, .un, .dat Cq86, .dat (.int 4), .un, .un, .un, .dat Cq82, .un, .un]
def Ce29 : List Sl := [.cel Cq257, .cel Cq260, .cel Cq261, .dat (.int 99), .un, .un, .un, .un, .un, .un, .un, .dat Cq199, .dat (.int 4), .un, .un, .un, .dat Cq197, .un, .un]
def Ce30 : List Sl := [.cel Cq263, .cel Cq265, .cel Cq266, .dat (.int 103), .un, .un, .un, .un, .un, .un, .un, .dat Cq84, .dat (.int 4), .un, .un, .un, .dat Cq77, .un, .un]
def Ce31 : List Sl := [.cel Cq268, .cel Cq270, .cel Cq271, .dat (.int 107), .un, .un, .un, .un, .un, .un, .un, .dat Cq149, .dat (.int 4), .un, .un, .un, .dat Cq144, .un, .un]
def Ce32 : List Sl := [.cel Cq268, .cel Cq274, .cel Cq271, .dat (.int 111), .un, .un, .un, .un, .un, .un, .un, .dat Cq273, .dat (.int 4), .un, .un, .un, .dat Cq216, .un, .un]
def Ce33 : List Sl := [.cel Cq277, .cel Cq279, .cel Cq280, .dat (.int 115), .un, .un, .un, .un, .un, .un, .un, .dat Cq221, .dat (.int 4), .un, .un, .un, .dat Cq217, .un, .un]
def Ce34 : List Sl := [.cel Cq277, .cel Cq281, .cel Cq280, .dat (.int 119), .un, .un, .un, .un, .un, .un, .un, .dat Cq221, .dat (.int 4), .un, .un, .un, .dat Cq217, .un, .un]
def Ce35 : List Sl := [.cel Cq285, .cel Cq290, .cel Cq291, .dat (.int 123), .un, .un, .un, .un, .un, .un, .un, .dat Cq289, .dat (.int 4), .un, .un, .un, .dat Cq284, .un, .un]
def Ce36 : List Sl := [.cel Cq294, .cel Cq297, .cel Cq298, .dat (.int 127), .un, .un, .un, .un, .un, .un, .un, .dat Cq296, .dat (.int 4), .un, .un, .un, .dat Cq293, .un, .un]
def Ce37 : List Sl := [.cel Cq301, .cel Cq304, .cel Cq305, .dat (.int 131), .un, .un, .un, .un, .un, .un, .un, .dat Cq296, .dat (.int 4), .un, .un, .un, .dat Cq293, .un, .un]
def Ce38 : List Sl := [.cel Cq307, .cel Cq309, .cel Cq310, .dat (.int 135), .un, .un, .un, .un, .un, .un, .un, .dat Cq278, .dat (.int 4), .un, .un, .un, .dat Cq276, .un, .un]
def Ce39 : List Sl := [.cel Cq307, .cel Cq309, .cel Cq310, .dat (.int 335), .un, .un, .un, .un, .un, .un, .un, .dat Cq278, .dat (.int 4), .un, .un, .un, .dat Cq276, .un, .un]
def Ce40 : List Sl := [.cel Cq307, .cel Cq309, .cel Cq310, .dat (.int 535), .un, .un, .un, .un, .un, .un, .un, .dat Cq278, .dat (.int 4), .un, .un, .un, .dat Cq276, .un, .un]
def Ce41 : List Sl := [.cel Cq307, .cel Cq309, .cel Cq310, .dat (.int 735), .un, .un, .un, .un, .un, .un, .un, .dat Cq278, .dat (.int 4), .un, .un, .un, .dat Cq276, .un, .un]
def Ce42 : List Sl := [.cel Cq307, .cel Cq309, .cel Cq310, .dat (.int 999), .un, .un, .un, .un, .un, .un, .un, .dat Cq278, .dat (.int 4), .un, .un, .un, .dat Cq276, .un, .un]
def Cf4 : List Sl → D → M Fl := (fun ρ x => bnd (opt (asgT (forG (nthS fd_law_machine.body 4)) (.dat x) ρ)) fun ρ2 => exSs (P.cl 6) ρ2 (whlD (nthS fd_law_machine.body 4)))
def Ce43 : List Sl := [.dat Cq307, .cel Cq309, .cel Cq310, .dat (.int 999), .un, .un, .un, .un, .un, .un, .un, .dat Cq278, .dat (.int 4), .un, .un, .un, .dat Cq276, .un, .un]
def Ce44 : List Sl := [.dat Cq307, .cel Cq309, .cel Cq310, .dat (.int 999), .cel Cq311, .un, .un, .un, .un, .un, .un, .dat Cq278, .dat (.int 4), .un, .un, .un, .dat Cq276, .un, .un]
def Ce45 : List Sl := [.dat Cq307, .cel Cq309, .cel Cq310, .dat (.int 999), .cel Cq311, .un, .un, .un, .un, .un, .un, .dat Cq278, .dat (.int 4), .un, .un, .un, .dat Cq276, .un, .un]
def Ce46 : List Sl := [.dat Cq307, .cel Cq309, .cel Cq310, .dat (.int 0), .dat Cq312, .un, .dat (.int 135), .un, .cel Cq322, .dat Cq312, .dat (.bl false), .dat Cq278, .dat (.int 4), .un, .dat Cq317, .un, .dat Cq276, .un, .un]
def Ce47 : List Sl := [.dat Cq307, .cel Cq309, .cel Cq310, .dat (.int 1), .dat Cq323, .un, .dat (.int 135), .un, .cel Cq380, .dat Cq323, .dat (.bl false), .dat Cq278, .dat (.int 4), .un, .dat Cq376, .un, .dat Cq276, .un, .un]
def Cf7 : List Sl → D → M Fl := (fun ρ x => bnd (opt (asgT (forG (nthS fd_law_machine.body 7)) (.dat x) ρ)) fun ρ2 => exSs (P.cl 6) ρ2 (whlD (nthS fd_law_machine.body 7)))
def Ce48 : List Sl := [.dat Cq307, .cel Cq309, .cel Cq310, .dat (.int 2), .dat Cq323, .un, .dat (.int 135), .un, .cel Cq437, .dat Cq323, .dat (.bl true), .dat Cq278, .dat (.int 4), .un, .dat Cq433, .un, .dat Cq276, .un, .un]
def Ce49 : List Sl := [.dat Cq307, .cel Cq309, .cel Cq310, .dat (.int 2), .dat Cq323, .cel (.lst []), .dat (.int 135), .un, .cel Cq437, .dat Cq323, .dat (.bl true), .dat Cq278, .dat (.int 4), .un, .dat Cq433, .un, .dat Cq276, .un, .un]
def Ce50 : List Sl := [.dat Cq307, .cel Cq309, .cel Cq310, .dat (.int 2), .dat Cq323, .cel Cq438, .dat (.int 135), .un, .cel Cq437, .dat Cq323, .dat (.bl true), .dat Cq278, .dat (.int 4), .un, .dat Cq433, .un, .dat Cq276, .un, .un]
def Ce51 : List Sl := [.dat Cq307, .cel Cq309, .cel Cq310, .dat (.int 2), .dat Cq323, .dat Cq438, .dat (.int 135), .un, .cel Cq437, .dat Cq323, .dat (.bl true), .dat Cq278, .dat (.int 4), .un, .dat Cq433, .un, .dat Cq276, .un, .un]
def Ce52 : List Sl := [.dat Cq307, .cel Cq309, .cel Cq310, .dat (.int 2), .dat Cq323, .dat Cq438, .dat (.int 135), .cel Cq439, .cel Cq437, .dat Cq323, .dat (.bl true), .dat Cq278, .dat (.int 4), .un, .dat Cq433, .un, .dat Cq276, .un, .un]
def Ce53 : List Sl := [.dat Cq307, .cel Cq309, .cel Cq310, .dat (.int 2), .dat Cq323, .dat Cq438, .dat (.int 135), .dat Cq439, .cel Cq437, .dat Cq323, .dat (.bl true), .dat Cq278, .dat (.int 4), .un, .dat Cq433, .un, .dat Cq276, .un, .un]
def CV : D := .tup [Cq496, Cq497]
theorem Ct0 : exSs (P.cl 6) (startS fd_law_machine []) (dropS 0 fd_law_machine.body) [] = exSs (P.cl 6) Ce0 (dropS 1 fd_law_machine.body) [] := at_st (b := fd_law_machine.body) 0 rfl (by decide +kernel)
theorem Ct1 : exSs (P.cl 6) Ce0 (dropS 1 fd_law_machine.body) [] = exSs (P.cl 6) Ce1 (dropS 2 fd_law_machine.body) [] := at_st (b := fd_law_machine.body) 1 rfl (by decide +kernel)
theorem Ct2 : exSs (P.cl 6) Ce1 (dropS 2 fd_law_machine.body) [] = exSs (P.cl 6) Ce2 (dropS 3 fd_law_machine.body) [] := at_st (b := fd_law_machine.body) 2 rfl (by decide +kernel)
theorem Ct3 : exSs (P.cl 6) Ce2 (dropS 3 fd_law_machine.body) [] = exSs (P.cl 6) Ce3 (dropS 4 fd_law_machine.body) [] := at_st (b := fd_law_machine.body) 3 rfl (by decide +kernel)
theorem Cf4_0 : inS (forR Cf4 (rngL 4 0) Ce4 []) Ce5 = true := by decide +kernel
theorem Cf4_4 : inS (forR Cf4 (rngL 4 4) Ce5 []) Ce6 = true := by decide +kernel
theorem Cf4_8 : inS (forR Cf4 (rngL 4 8) Ce6 []) Ce7 = true := by decide +kernel
theorem Cf4_12 : inS (forR Cf4 (rngL 4 12) Ce7 []) Ce8 = true := by decide +kernel
theorem Cf4_16 : inS (forR Cf4 (rngL 4 16) Ce8 []) Ce9 = true := by decide +kernel
theorem Cf4_20 : inS (forR Cf4 (rngL 4 20) Ce9 []) Ce10 = true := by decide +kernel
theorem Cf4_24 : inS (forR Cf4 (rngL 4 24) Ce10 []) Ce11 = true := by decide +kernel
theorem Cf4_28 : inS (forR Cf4 (rngL 4 28) Ce11 []) Ce12 = true := by decide +kernel
theorem Cf4_32 : inS (forR Cf4 (rngL 4 32) Ce12 []) Ce13 = true := by decide +kernel
theorem Cf4_36 : inS (forR Cf4 (rngL 4 36) Ce13 []) Ce14 = true := by decide +kernel
theorem Cf4_40 : inS (forR Cf4 (rngL 4 40) Ce14 []) Ce15 = true := by decide +kernel
theorem Cf4_44 : inS (forR Cf4 (rngL 4 44) Ce15 []) Ce16 = true := by decide +kernel
theorem Cf4_48 : inS (forR Cf4 (rngL 4 48) Ce16 []) Ce17 = true := by decide +kernel
theorem Cf4_52 : inS (forR Cf4 (rngL 4 52) Ce17 []) Ce18 = true := by decide +kernel
theorem Cf4_56 : inS (forR Cf4 (rngL 4 56) Ce18 []) Ce19 = true := by decide +kernel
theorem Cf4_60 : inS (forR Cf4 (rngL 4 60) Ce19 []) Ce20 = true := by decide +kernel
theorem Cf4_64 : inS (forR Cf4 (rngL 4 64) Ce20 []) Ce21 = true := by decide +kernel
theorem Cf4_68 : inS (forR Cf4 (rngL 4 68) Ce21 []) Ce22 = true := by decide +kernel
theorem Cf4_72 : inS (forR Cf4 (rngL 4 72) Ce22 []) Ce23 = true := by decide +kernel
theorem Cf4_76 : inS (forR Cf4 (rngL 4 76) Ce23 []) Ce24 = true := by decide +kernel
theorem Cf4_80 : inS (forR Cf4 (rngL 4 80) Ce24 []) Ce25 = true := by decide +kernel
theorem Cf4_84 : inS (forR Cf4 (rngL 4 84) Ce25 []) Ce26 = true := by decide +kernel
theorem Cf4_88 : inS (forR Cf4 (rngL 4 88) Ce26 []) Ce27 = true := by decide +kernel
theorem Cf4_92 : inS (forR Cf4 (rngL 4 92) Ce27 []) Ce28 = true := by decide +kernel
theorem Cf4_96 : inS (forR Cf4 (rngL 4 96) Ce28 []) Ce29 = true := by decide +kernel
theorem Cf4_100 : inS (forR Cf4 (rngL 4 100) Ce29 []) Ce30 = true := by decide +kernel
theorem Cf4_104 : inS (forR Cf4 (rngL 4 104) Ce30 []) Ce31 = true := by decide +kernel
theorem Cf4_108 : inS (forR Cf4 (rngL 4 108) Ce31 []) Ce32 = true := by decide +kernel
theorem Cf4_112 : inS (forR Cf4 (rngL 4 112) Ce32 []) Ce33 = true := by decide +kernel
theorem Cf4_116 : inS (forR Cf4 (rngL 4 116) Ce33 []) Ce34 = true := by decide +kernel
theorem Cf4_120 : inS (forR Cf4 (rngL 4 120) Ce34 []) Ce35 = true := by decide +kernel
theorem Cf4_124 : inS (forR Cf4 (rngL 4 124) Ce35 []) Ce36 = true := by decide +kernel
theorem Cf4_128 : inS (forR Cf4 (rngL 4 128) Ce36 []) Ce37 = true := by decide +kernel
theorem Cf4_132 : inS (forR Cf4 (rngL 4 132) Ce37 []) Ce38 = true := by decide +kernel
theorem Cf4_136 : inS (forR Cf4 (rngL 200 136) Ce38 []) Ce39 = true := by decide +kernel
theorem Cf4_336 : inS (forR Cf4 (rngL 200 336) Ce39 []) Ce40 = true := by decide +kernel
theorem Cf4_536 : inS (forR Cf4 (rngL 200 536) Ce40 []) Ce41 = true := by decide +kernel
theorem Cf4_736 : inS (forR Cf4 (rngL 264 736) Ce41 []) Ce42 = true := by decide +kernel
theorem CF4 : forB Cf4 (rngL 1000 0) Ce4 [] = .ok (.nx Ce42) [] := (for_cut 4 996 Cf4_0).trans ((for_cut 4 992 Cf4_4).trans ((for_cut 4 988 Cf4_8).trans ((for_cut 4 984 Cf4_12).trans ((for_cut 4 980 Cf4_16).trans ((for_cut 4 976 Cf4_20).trans ((for_cut 4 972 Cf4_24).trans ((for_cut 4 968 Cf4_28).trans ((for_cut 4 964 Cf4_32).trans ((for_cut 4 960 Cf4_36).trans ((for_cut 4 956 Cf4_40).trans ((for_cut 4 952 Cf4_44).trans ((for_cut 4 948 Cf4_48).trans ((for_cut 4 944 Cf4_52).trans ((for_cut 4 940 Cf4_56).trans ((for_cut 4 936 Cf4_60).trans ((for_cut 4 932 Cf4_64).trans ((for_cut 4 928 Cf4_68).trans ((for_cut 4 924 Cf4_72).trans ((for_cut 4 920 Cf4_76).trans ((for_cut 4 916 Cf4_80).trans ((for_cut 4 912 Cf4_84).trans ((for_cut 4 908 Cf4_88).trans ((for_cut 4 904 Cf4_92).trans ((for_cut 4 900 Cf4_96).trans ((for_cut 4 896 Cf4_100).trans ((for_cut 4 892 Cf4_104).trans ((for_cut 4 888 Cf4_108).trans ((for_cut 4 884 Cf4_112).trans ((for_cut 4 880 Cf4_116).trans ((for_cut 4 876 Cf4_120).trans ((for_cut 4 872 Cf4_124).trans ((for_cut 4 868 Cf4_128).trans ((for_cut 4 864 Cf4_132).trans ((for_cut 200 664 Cf4_136).trans ((for_cut 200 464 Cf4_336).trans ((for_cut 200 264 Cf4_536).trans ((for_cut 264 0 Cf4_736).trans (for_end))))))))))))))))))))))))))))))))))))))
theorem Ct4 : exSs (P.cl 6) Ce3 (dropS 4 fd_law_machine.body) [] = exSs (P.cl 6) Ce42 (dropS 5 fd_law_machine.body) [] := at_for (b := fd_law_machine.body) 4 (xs := rngL 1000 0) rfl (by decide +kernel) CF4
theorem Ct5 : exSs (P.cl 6) Ce42 (dropS 5 fd_law_machine.body) [] = exSs (P.cl 6) Ce43 (dropS 6 fd_law_machine.body) [] := at_st (b := fd_law_machine.body) 5 rfl (by decide +kernel)
theorem Ct6 : exSs (P.cl 6) Ce43 (dropS 6 fd_law_machine.body) [] = exSs (P.cl 6) Ce44 (dropS 7 fd_law_machine.body) [] := at_st (b := fd_law_machine.body) 6 rfl (by decide +kernel)
theorem Cf7_0 : inS (forR Cf7 (rngL 1 0) Ce45 []) Ce46 = true := by decide +kernel
theorem Cf7_1 : inS (forR Cf7 (rngL 1 1) Ce46 []) Ce47 = true := by decide +kernel
theorem Cf7_b : inS (brkd (Cf7 Ce47 (.int 2)) []) Ce48 = true := by decide +kernel
theorem CF7 : forB Cf7 (rngL 136 0) Ce45 [] = .ok (.nx Ce48) [] := (for_cut 1 135 Cf7_0).trans ((for_cut 1 134 Cf7_1).trans ((for_brk 133 Cf7_b)))
theorem Ct7 : exSs (P.cl 6) Ce44 (dropS 7 fd_law_machine.body) [] = exSs (P.cl 6) Ce48 (dropS 8 fd_law_machine.body) [] := at_for (b := fd_law_machine.body) 7 (xs := rngL 136 0) rfl (by decide +kernel) CF7
theorem Ct8 : exSs (P.cl 6) Ce48 (dropS 8 fd_law_machine.body) [] = exSs (P.cl 6) Ce49 (dropS 9 fd_law_machine.body) [] := at_st (b := fd_law_machine.body) 8 rfl (by decide +kernel)
theorem Ct9 : exSs (P.cl 6) Ce49 (dropS 9 fd_law_machine.body) [] = exSs (P.cl 6) Ce50 (dropS 10 fd_law_machine.body) [] := at_st (b := fd_law_machine.body) 9 rfl (by decide +kernel)
theorem Ct10 : exSs (P.cl 6) Ce50 (dropS 10 fd_law_machine.body) [] = exSs (P.cl 6) Ce51 (dropS 11 fd_law_machine.body) [] := at_st (b := fd_law_machine.body) 10 rfl (by decide +kernel)
theorem Ct11 : exSs (P.cl 6) Ce51 (dropS 11 fd_law_machine.body) [] = exSs (P.cl 6) Ce52 (dropS 12 fd_law_machine.body) [] := at_st (b := fd_law_machine.body) 11 rfl (by decide +kernel)
theorem Ct12 : exSs (P.cl 6) Ce52 (dropS 12 fd_law_machine.body) [] = exSs (P.cl 6) Ce53 (dropS 13 fd_law_machine.body) [] := at_st (b := fd_law_machine.body) 12 rfl (by decide +kernel)
theorem Cr : inR (exSs (P.cl 6) Ce53 (dropS 13 fd_law_machine.body) []) (.dat CV) = true := by decide +kernel
theorem C_val : callN P 7 12 [] [] = .ok (.dat CV) [] := call_ret (fd := fd_law_machine) rfl rfl (Ct0.trans (Ct1.trans (Ct2.trans (Ct3.trans (Ct4.trans (Ct5.trans (Ct6.trans (Ct7.trans (Ct8.trans (Ct9.trans (Ct10.trans (Ct11.trans (Ct12.trans (inR_eq Cr))))))))))))))
end MW
namespace MW
open PySem (Str)
def Bargs : List D := match AV with
  | .tup xs => xs
  | _ => []
def Bq0 : D := .lst [.int 0, .int 1, .int 2, .int 3, .int 4]
def Bq1 : D := .lst [.int 5, .int 6, .int 7, .int 8, .int 9]
def Bq2 : D := .lst [.int 10, .int 11, .int 12, .int 13, .int 14]
def Bq3 : D := .lst [.int 0, .int 15, .int 16, .int 17, .int 18]
def Bq4 : D := .lst [.int 5, .int 6, .int 19, .int 20, .int 21]
def Bq5 : D := .lst [.int 5, .int 5, .int 5, .int 5, .int 5]
def Bq6 : D := .lst [.int 5, .int 0, .int 1, .int 2, .int 3]
def Bq7 : D := .lst [.int 5, .int 5, .int 6, .int 7, .int 8]
def Bq8 : D := .lst [.int 5, .int 10, .int 11, .int 12, .int 13]
def Bq9 : D := .lst [.int 5, .int 0, .int 15, .int 16, .int 17]
def Bq10 : D := .lst [.int 10, .int 11, .int 22, .int 23, .int 24]
def Bq11 : D := .lst [.int 5, .int 25, .int 26, .int 27, .int 28]
def Bq12 : D := .lst [.int 5, .int 5, .int 29, .int 30, .int 31]
def Bq13 : D := .lst [.int 10, .int 11, .int 22, .int 32, .int 33]
def Bq14 : D := .lst [.int 5, .int 25, .int 34, .int 35, .int 36]
def Bq15 : D := .lst [.int 5, .int 37, .int 38, .int 39, .int 40]
def Bq16 : D := .lst [.int 10, .int 11, .int 41, .int 42, .int 43]
def Bq17 : D := .lst [.int 0, .int 15, .int 16, .int 44, .int 45]
def Bq18 : D := .lst [.int 5, .int 37, .int 46, .int 47, .int 48]
def Bq19 : D := .lst [.int 5, .int 5, .int 37, .int 38, .int 39]
def Bq20 : D := .lst [.int 5, .int 10, .int 11, .int 41, .int 42]
def Bq21 : D := .lst [.int 5, .int 0, .int 15, .int 16, .int 44]
def Bq22 : D := .lst [.int 5, .int 5, .int 49, .int 50, .int 51]
def Bq23 : D := .lst [.int 10, .int 11, .int 22, .int 52, .int 53]
def Bq24 : D := .lst [.int 5, .int 25, .int 26, .int 27, .int 54]
def Bq25 : D := .lst [.int 5, .int 10, .int 11, .int 22, .int 23]
def Bq26 : D := .lst [.int 5, .int 5, .int 25, .int 26, .int 27]
def Bq27 : D := .lst [.int 5, .int 5, .int 5, .int 49, .int 50]
def Bq28 : D := .lst [.int 5, .int 10, .int 11, .int 22, .int 52]
def Bq29 : D := .lst [.int 10, .int 55, .int 56, .int 57, .int 58]
def Bq30 : D := .lst [.int 5, .int 25, .int 59, .int 60, .int 61]
def Bq31 : D := .lst [.int 10, .int 11, .int 62, .int 63, .int 64]
def Bq32 : D := .lst [.int 5, .int 25, .int 26, .int 65, .int 66]
def Bq33 : D := .lst [.int 5, .int 10, .int 67, .int 68, .int 69]
def Bq34 : D := .lst [.int 10, .int 55, .int 56, .int 70, .int 71]
def Bq35 : D := .lst [.int 5, .int 25, .int 59, .int 60, .int 72]
def Bq36 : D := .lst [.int 5, .int 10, .int 73, .int 74, .int 75]
def Bq37 : D := .lst [.int 10, .int 55, .int 76, .int 77, .int 78]
def Bq38 : D := .lst [.int 5, .int 10, .int 67, .int 68, .int 79]
def Bq39 : D := .lst [.int 10, .int 11, .int 62, .int 80, .int 81]
def Bq40 : D := .lst [.int 5, .int 25, .int 34, .int 82, .int 83]
def Bq41 : D := .lst [.int 5, .int 25, .int 84, .int 85, .int 86]
def Bq42 : D := .lst [.int 5, .int 10, .int 73, .int 87, .int 88]
def Bq43 : D := .lst [.int 10, .int 55, .int 76, .int 77, .int 89]
def Bq44 : D := .lst [.int 5, .int 5, .int 10, .int 11, .int 22]
def Bq45 : D := .lst [.int 5, .int 5, .int 5, .int 25, .int 26]
def Bq46 : D := .lst [.int 5, .int 5, .int 5, .int 5, .int 49]
def Bq47 : D := .lst [.int 0, .int 15, .int 16, .int 90, .int 91]
def Bq48 : D := .lst [.int 5, .int 6, .int 19, .int 20, .int 92]
def Bq49 : D := .lst [.int 10, .int 11, .int 12, .int 93, .int 94]
def Bq50 : D := .lst [.int 0, .int 15, .int 16, .int 17, .int 95]
def Bq51 : D := .lst [.int 5, .int 0, .int 15, .int 16, .int 90]
def Bq52 : D := .lst [.int 5, .int 5, .int 6, .int 19, .int 20]
def Bq53 : D := .lst [.int 5, .int 10, .int 11, .int 12, .int 93]
def Bq54 : D := .lst [.int 5, .int 10, .int 73, .int 96, .int 97]
def Bq55 : D := .lst [.int 10, .int 11, .int 62, .int 98, .int 99]
def Bq56 : D := .lst [.int 5, .int 25, .int 26, .int 65, .int 100]
def Bq57 : D := .lst [.int 5, .int 5, .int 10, .int 73, .int 96]
def Bq58 : D := .lst [.int 5, .int 10, .int 11, .int 62, .int 98]
def Bq59 : D := .lst [.int 5, .int 25, .int 34, .int 35, .int 101]
def Bq60 : D := .lst [.int 5, .int 5, .int 29, .int 102, .int 103]
def Bq61 : D := .lst [.int 10, .int 11, .int 22, .int 32, .int 104]
def Bq62 : D := .lst [.int 5, .int 37, .int 46, .int 47, .int 105]
def Bq63 : D := .lst [.int 10, .int 11, .int 41, .int 106, .int 107]
def Bq64 : D := .lst [.int 0, .int 15, .int 16, .int 44, .int 108]
def Bq65 : D := .lst [.int 10, .int 55, .int 76, .int 77, .int 109]
def Bq66 : D := .lst [.int 5, .int 25, .int 59, .int 110, .int 111]
def Bq67 : D := .lst [.int 5, .int 25, .int 34, .int 82, .int 112]
def Bq68 : D := .lst [.int 5, .int 10, .int 67, .int 113, .int 114]
def Bq69 : D := .lst [.int 10, .int 55, .int 76, .int 115, .int 116]
def Bq70 : D := .lst [.int 5, .int 25, .int 59, .int 110, .int 117]
def Bq71 : D := .lst [.int 5, .int 10, .int 73, .int 74, .int 118]
def Bq72 : D := .lst [.int 5, .int 10, .int 67, .int 113, .int 119]
def Bq73 : D := .lst [.int 10, .int 11, .int 62, .int 80, .int 120]
def Bq74 : D := .lst [.int 5, .int 5, .int 49, .int 121, .int 122]
def Bq75 : D := .lst [.int 10, .int 11, .int 22, .int 52, .int 123]
def Bq76 : D := .lst [.int 5, .int 10, .int 73, .int 96, .int 124]
def Bq77 : D := .lst [.int 5, .int 25, .int 84, .int 85, .int 125]
def Bq78 : D := .lst [.int 5, .int 5, .int 37, .int 46, .int 47]
def Bq79 : D := .lst [.int 5, .int 10, .int 11, .int 41, .int 106]
def Bq80 : D := .lst [.int 5, .int 10, .int 73, .int 126, .int 127]
def Bq81 : D := .lst [.int 5, .int 25, .int 84, .int 128, .int 129]
def Bq82 : D := .lst [.int 5, .int 10, .int 11, .int 62, .int 63]
def Bq83 : D := .lst [.int 5, .int 5, .int 25, .int 26, .int 65]
def Bq84 : D := .lst [.int 5, .int 25, .int 34, .int 35, .int 130]
def Bq85 : D := .lst [.int 5, .int 10, .int 73, .int 126, .int 131]
def Bq86 : D := .lst [.int 10, .int 11, .int 62, .int 98, .int 132]
def Bq87 : D := .lst [.int 5, .int 25, .int 84, .int 128, .int 133]
def Bq88 : D := .lst [.int 5, .int 10, .int 73, .int 87, .int 134]
def Bq89 : D := .lst [.int 5, .int 25, .int 34, .int 82, .int 135]
def Bq90 : D := .lst [Bq0, Bq1, Bq2, Bq3, Bq4, Bq5, Bq6, Bq7, Bq8, Bq9, Bq10, Bq11, Bq12, Bq13, Bq14, Bq15, Bq16, Bq17, Bq18, Bq19, Bq20, Bq21, Bq22, Bq23, Bq24, Bq25, Bq26, Bq27, Bq28, Bq0, Bq1, Bq2, Bq29, Bq30, Bq31, Bq32, Bq33, Bq34, Bq35, Bq36, Bq37, Bq38, Bq39, Bq40, Bq17, Bq18, Bq41, Bq42, Bq43, Bq44, Bq45, Bq46, Bq23, Bq24, Bq28, Bq47, Bq48, Bq49, Bq50, Bq51, Bq52, Bq53, Bq54, Bq55, Bq56, Bq57, Bq58, Bq47, Bq48, Bq49, Bq49, Bq50, Bq53, Bq59, Bq60, Bq61, Bq62, Bq63, Bq64, Bq49, Bq65, Bq66, Bq67, Bq68, Bq69, Bq70, Bq71, Bq72, Bq73, Bq64, Bq17, Bq18, Bq21, Bq13, Bq14, Bq18, Bq74, Bq75, Bq55, Bq56, Bq58, Bq76, Bq15, Bq16, Bq77, Bq43, Bq39, Bq40, Bq18, Bq64, Bq78, Bq79, Bq80, Bq62, Bq63, Bq63, Bq64, Bq79, Bq61, Bq63, Bq81, Bq82, Bq83, Bq84, Bq75, Bq71, Bq85, Bq86, Bq87, Bq88, Bq76, Bq86, Bq89, Bq88, Bq73, Bq80]
def Bq91 : D := .lst [.tup [.bl true, .bl false], .tup [.bl false, .bl false], .tup [.bl false, .bl true], .tup [.bl true, .bl false], .tup [.bl false, .bl false], .tup [.bl false, .bl false], .tup [.bl false, .bl false], .tup [.bl false, .bl false], .tup [.bl false, .bl false], .tup [.bl false, .bl false], .tup [.bl false, .bl true], .tup [.bl false, .bl false], .tup [.bl false, .bl false], .tup [.bl false, .bl true], .tup [.bl false, .bl false], .tup [.bl false, .bl false], .tup [.bl false, .bl true], .tup [.bl true, .bl false], .tup [.bl false, .bl false], .tup [.bl false, .bl false], .tup [.bl false, .bl false], .tup [.bl false, .bl false], .tup [.bl false, .bl false], .tup [.bl false, .bl true], .tup [.bl false, .bl false], .tup [.bl false, .bl false], .tup [.bl false, .bl false], .tup [.bl false, .bl false], .tup [.bl false, .bl false], .tup [.bl true, .bl false], .tup [.bl false, .bl false], .tup [.bl false, .bl true], .tup [.bl false, .bl true], .tup [.bl false, .bl false], .tup [.bl false, .bl true], .tup [.bl false, .bl false], .tup [.bl false, .bl false], .tup [.bl false, .bl true], .tup [.bl false, .bl false], .tup [.bl false, .bl false], .tup [.bl false, .bl true], .tup [.bl false, .bl false], .tup [.bl false, .bl true], .tup [.bl false, .bl false], .tup [.bl true, .bl false], .tup [.bl false, .bl false], .tup [.bl false, .bl false], .tup [.bl false, .bl false], .tup [.bl false, .bl true], .tup [.bl false, .bl false], .tup [.bl false, .bl false], .tup [.bl false, .bl false], .tup [.bl false, .bl true], .tup [.bl false, .bl false], .tup [.bl false, .bl false], .tup [.bl true, .bl false], .tup [.bl false, .bl false], .tup [.bl false, .bl true], .tup [.bl true, .bl false], .tup [.bl false, .bl false], .tup [.bl false, .bl false], .tup [.bl false, .bl false], .tup [.bl false, .bl false], .tup [.bl false, .bl true], .tup [.bl false, .bl false], .tup [.bl false, .bl false], .tup [.bl false, .bl false], .tup [.bl true, .bl false], .tup [.bl false, .bl false], .tup [.bl false, .bl true], .tup [.bl false, .bl true], .tup [.bl true, .bl false], .tup [.bl false, .bl false], .tup [.bl false, .bl false], .tup [.bl false, .bl false], .tup [.bl false, .bl true], .tup [.bl false, .bl false], .tup [.bl false, .bl true], .tup [.bl true, .bl false], .tup [.bl false, .bl true], .tup [.bl false, .bl true], .tup [.bl false, .bl false], .tup [.bl false, .bl false], .tup [.bl false, .bl false], .tup [.bl false, .bl true], .tup [.bl false, .bl false], .tup [.bl false, .bl false], .tup [.bl false, .bl false], .tup [.bl false, .bl true], .tup [.bl true, .bl false], .tup [.bl true, .bl false], .tup [.bl false, .bl false], .tup [.bl false, .bl false], .tup [.bl false, .bl true], .tup [.bl false, .bl false], .tup [.bl false, .bl false], .tup [.bl false, .bl false], .tup [.bl false, .bl true], .tup [.bl false, .bl true], .tup [.bl false, .bl false], .tup [.bl false, .bl false], .tup [.bl false, .bl false], .tup [.bl false, .bl false], .tup [.bl false, .bl true], .tup [.bl false, .bl false], .tup [.bl false, .bl true], .tup [.bl false, .bl true], .tup [.bl false, .bl false], .tup [.bl false, .bl false], .tup [.bl true, .bl false], .tup [.bl false, .bl false], .tup [.bl false, .bl false], .tup [.bl false, .bl false], .tup [.bl false, .bl false], .tup [.bl false, .bl true], .tup [.bl false, .bl true], .tup [.bl true, .bl false], .tup [.bl false, .bl false], .tup [.bl false, .bl true], .tup [.bl false, .bl true], .tup [.bl false, .bl false], .tup [.bl false, .bl false], .tup [.bl false, .bl false], .tup [.bl false, .bl false], .tup [.bl false, .bl true], .tup [.bl false, .bl false], .tup [.bl false, .bl false], .tup [.bl false, .bl true], .tup [.bl false, .bl false], .tup [.bl false, .bl false], .tup [.bl false, .bl false], .tup [.bl false, .bl true], .tup [.bl false, .bl false], .tup [.bl false, .bl false], .tup [.bl false, .bl true], .tup [.bl false, .bl false]]
def Bq92 : D := .lst [.int 0, .int 1, .int 2, .int 0, .int 1, .int 1, .int 1, .int 1, .int 1, .int 1, .int 2, .int 1, .int 1, .int 2, .int 1, .int 1, .int 2, .int 0, .int 1, .int 1, .int 1, .int 1, .int 1, .int 2, .int 1, .int 1, .int 1, .int 1, .int 1, .int 0, .int 1, .int 2, .int 2, .int 1, .int 2, .int 1, .int 1, .int 2, .int 1, .int 1, .int 2, .int 1, .int 2, .int 1, .int 0, .int 1, .int 1, .int 1, .int 2, .int 1, .int 1, .int 1, .int 2, .int 1, .int 1, .int 0, .int 1, .int 2, .int 0, .int 1, .int 1, .int 1, .int 1, .int 2, .int 1, .int 1, .int 1, .int 0, .int 1, .int 2, .int 2, .int 0, .int 1, .int 1, .int 1, .int 2, .int 1, .int 2, .int 0, .int 2, .int 2, .int 1, .int 1, .int 1, .int 2, .int 1, .int 1, .int 1, .int 2, .int 0, .int 0, .int 1, .int 1, .int 2, .int 1, .int 1, .int 1, .int 2, .int 2, .int 1, .int 1, .int 1, .int 1, .int 2, .int 1, .int 2, .int 2, .int 1, .int 1, .int 0, .int 1, .int 1, .int 1, .int 1, .int 2, .int 2, .int 0, .int 1, .int 2, .int 2, .int 1, .int 1, .int 1, .int 1, .int 2, .int 1, .int 1, .int 2, .int 1, .int 1, .int 1, .int 2, .int 1, .int 1, .int 2, .int 1]
def Bq93 : D := .lst [.int 0, .int 1, .int 2, .int 0, .int 1, .int 1, .int 3, .int 1, .int 4, .int 3, .int 2, .int 1, .int 5, .int 2, .int 6, .int 4, .int 2, .int 0, .int 4, .int 6, .int 4, .int 3, .int 1, .int 2, .int 1, .int 4, .int 1, .int 1, .int 4, .int 0, .int 1, .int 2, .int 7, .int 1, .int 2, .int 1, .int 8, .int 7, .int 1, .int 4, .int 7, .int 8, .int 2, .int 6, .int 0, .int 4, .int 6, .int 4, .int 7, .int 6, .int 1, .int 1, .int 2, .int 1, .int 4, .int 0, .int 1, .int 2, .int 0, .int 3, .int 1, .int 4, .int 4, .int 2, .int 1, .int 6, .int 4, .int 0, .int 1, .int 2, .int 2, .int 0, .int 4, .int 6, .int 5, .int 2, .int 4, .int 2, .int 0, .int 2, .int 7, .int 1, .int 6, .int 8, .int 7, .int 1, .int 4, .int 8, .int 2, .int 0, .int 0, .int 4, .int 3, .int 2, .int 6, .int 4, .int 1, .int 2, .int 2, .int 1, .int 4, .int 4, .int 4, .int 2, .int 6, .int 7, .int 2, .int 6, .int 4, .int 0, .int 6, .int 4, .int 4, .int 4, .int 2, .int 2, .int 0, .int 4, .int 2, .int 2, .int 6, .int 4, .int 1, .int 6, .int 2, .int 4, .int 4, .int 2, .int 6, .int 4, .int 4, .int 2, .int 6, .int 4, .int 2, .int 4]
def Bq94 : D := .lst [.int 0, .int 1, .int 2, .int 3, .int 4, .int 5, .int 6, .int 7, .int 8, .int 9, .int 10, .int 11, .int 12, .int 13, .int 14, .int 15, .int 16, .int 3, .int 17, .int 18, .int 19, .int 9, .int 20, .int 10, .int 11, .int 21, .int 22, .int 23, .int 21, .int 0, .int 1, .int 2, .int 24, .int 25, .int 26, .int 27, .int 28, .int 24, .int 25, .int 29, .int 30, .int 28, .int 31, .int 32, .int 3, .int 17, .int 33, .int 34, .int 30, .int 35, .int 36, .int 37, .int 10, .int 11, .int 21, .int 3, .int 4, .int 2, .int 3, .int 9, .int 38, .int 8, .int 39, .int 26, .int 27, .int 40, .int 41, .int 3, .int 4, .int 2, .int 2, .int 3, .int 8, .int 42, .int 43, .int 44, .int 17, .int 16, .int 3, .int 2, .int 30, .int 45, .int 46, .int 47, .int 30, .int 45, .int 29, .int 47, .int 48, .int 3, .int 3, .int 17, .int 9, .int 13, .int 14, .int 17, .int 49, .int 50, .int 26, .int 27, .int 41, .int 39, .int 15, .int 16, .int 33, .int 30, .int 31, .int 32, .int 17, .int 3, .int 51, .int 19, .int 52, .int 17, .int 16, .int 16, .int 3, .int 19, .int 44, .int 16, .int 53, .int 41, .int 54, .int 42, .int 50, .int 29, .int 52, .int 55, .int 53, .int 34, .int 39, .int 55, .int 46, .int 34, .int 48, .int 52]
def Be0 : List Sl := [.dat Bq90, .dat Bq91, .cel Bq92, .un, .un, .un, .un]
def Be1 : List Sl := [.dat Bq90, .dat Bq91, .cel Bq92, .dat (.int 0), .un, .un, .un]
def Be2 : List Sl := [.dat Bq90, .dat Bq91, .cel Bq92, .dat (.int 0), .un, .un, .un]
def Be3 : List Sl := [.dat Bq90, .dat Bq91, .cel Bq93, .dat (.int 3), .un, .un, .un]
def Be4 : List Sl := [.dat Bq90, .dat Bq91, .cel Bq94, .dat (.int 9), .un, .un, .un]
def Be5 : List Sl := [.dat Bq90, .dat Bq91, .cel Bq94, .dat (.int 56), .un, .un, .un]
def BV : D := Bq94
theorem Bt0 : exSs (P.cl 5) (startS fd_classes_of Bargs) (dropS 0 fd_classes_of.body) [] = exSs (P.cl 5) Be0 (dropS 1 fd_classes_of.body) [] := at_st (b := fd_classes_of.body) 0 rfl (by decide +kernel)
theorem Bt1 : exSs (P.cl 5) Be0 (dropS 1 fd_classes_of.body) [] = exSs (P.cl 5) Be1 (dropS 2 fd_classes_of.body) [] := at_st (b := fd_classes_of.body) 1 rfl (by decide +kernel)
theorem Bw2_0 : inS (whlR (fun ρ => evb (P.cl 5) ρ (whlT (nthS fd_classes_of.body 2))) (fun ρ => exSs (P.cl 5) ρ (whlD (nthS fd_classes_of.body 2))) 1 Be2 []) Be3 = true := by decide +kernel
theorem Bw2_1 : inS (whlR (fun ρ => evb (P.cl 5) ρ (whlT (nthS fd_classes_of.body 2))) (fun ρ => exSs (P.cl 5) ρ (whlD (nthS fd_classes_of.body 2))) 1 Be3 []) Be4 = true := by decide +kernel
theorem Bw2_2 : inS (whlR (fun ρ => evb (P.cl 5) ρ (whlT (nthS fd_classes_of.body 2))) (fun ρ => exSs (P.cl 5) ρ (whlD (nthS fd_classes_of.body 2))) 1 Be4 []) Be5 = true := by decide +kernel
theorem BW2 : whlB (fun ρ => evb (P.cl 5) ρ (whlT (nthS fd_classes_of.body 2))) (fun ρ => exSs (P.cl 5) ρ (whlD (nthS fd_classes_of.body 2))) 1000000 Be2 [] = whlB (fun ρ => evb (P.cl 5) ρ (whlT (nthS fd_classes_of.body 2))) (fun ρ => exSs (P.cl 5) ρ (whlD (nthS fd_classes_of.body 2))) 999997 Be5 [] := (whl_cutE (M := 1000000) 999999 rfl Bw2_0).trans ((whl_cutE (M := 999999) 999998 rfl Bw2_1).trans ((whl_cutE (M := 999998) 999997 rfl Bw2_2)))
theorem Bt2 : exSs (P.cl 5) Be1 (dropS 2 fd_classes_of.body) [] = exSs (P.cl 5) Be5 (dropS 3 fd_classes_of.body) [] := at_whl (b := fd_classes_of.body) (N := 999996) (M := 999997) 2 rfl rfl BW2 (by decide +kernel)
theorem Br : inR (exSs (P.cl 5) Be5 (dropS 3 fd_classes_of.body) []) (.frs BV) = true := by decide +kernel
theorem B_val : callN P 6 4 Bargs [] = .ok (.frs BV) [] := call_ret (fd := fd_classes_of) rfl rfl (Bt0.trans (Bt1.trans (Bt2.trans (inR_eq Br))))
end MW
namespace MW
open PySem (Str)
theorem cl_call (P : Prog) (n f : Nat) (ds : List D) (m : Mu) : (P.cl n).call f ds m = callN P n f ds m := rfl
def Nq0 : D := .lst [.int 0, .int 1, .int 2, .int 3, .int 4]
def Nq1 : D := .lst [.int 5, .int 6, .int 7, .int 8, .int 9]
def Nq2 : D := .lst [.int 10, .int 11, .int 12, .int 13, .int 14]
def Nq3 : D := .lst [.int 0, .int 15, .int 16, .int 17, .int 18]
def Nq4 : D := .lst [.int 5, .int 6, .int 19, .int 20, .int 21]
def Nq5 : D := .lst [.int 5, .int 5, .int 5, .int 5, .int 5]
def Nq6 : D := .lst [.int 5, .int 0, .int 1, .int 2, .int 3]
def Nq7 : D := .lst [.int 5, .int 5, .int 6, .int 7, .int 8]
def Nq8 : D := .lst [.int 5, .int 10, .int 11, .int 12, .int 13]
def Nq9 : D := .lst [.int 5, .int 0, .int 15, .int 16, .int 17]
def Nq10 : D := .lst [.int 10, .int 11, .int 22, .int 23, .int 24]
def Nq11 : D := .lst [.int 5, .int 25, .int 26, .int 27, .int 28]
def Nq12 : D := .lst [.int 5, .int 5, .int 29, .int 30, .int 31]
def Nq13 : D := .lst [.int 10, .int 11, .int 22, .int 32, .int 33]
def Nq14 : D := .lst [.int 5, .int 25, .int 34, .int 35, .int 36]
def Nq15 : D := .lst [.int 5, .int 37, .int 38, .int 39, .int 40]
def Nq16 : D := .lst [.int 10, .int 11, .int 41, .int 42, .int 43]
def Nq17 : D := .lst [.int 0, .int 15, .int 16, .int 44, .int 45]
def Nq18 : D := .lst [.int 5, .int 37, .int 46, .int 47, .int 48]
def Nq19 : D := .lst [.int 5, .int 5, .int 37, .int 38, .int 39]
def Nq20 : D := .lst [.int 5, .int 10, .int 11, .int 41, .int 42]
def Nq21 : D := .lst [.int 5, .int 0, .int 15, .int 16, .int 44]
def Nq22 : D := .lst [.int 5, .int 5, .int 49, .int 50, .int 51]
def Nq23 : D := .lst [.int 10, .int 11, .int 22, .int 52, .int 53]
def Nq24 : D := .lst [.int 5, .int 25, .int 26, .int 27, .int 54]
def Nq25 : D := .lst [.int 5, .int 10, .int 11, .int 22, .int 23]
def Nq26 : D := .lst [.int 5, .int 5, .int 25, .int 26, .int 27]
def Nq27 : D := .lst [.int 5, .int 5, .int 5, .int 49, .int 50]
def Nq28 : D := .lst [.int 5, .int 10, .int 11, .int 22, .int 52]
def Nq29 : D := .lst [.int 10, .int 55, .int 56, .int 57, .int 58]
def Nq30 : D := .lst [.int 5, .int 25, .int 59, .int 60, .int 61]
def Nq31 : D := .lst [.int 10, .int 11, .int 62, .int 63, .int 64]
def Nq32 : D := .lst [.int 5, .int 25, .int 26, .int 65, .int 66]
def Nq33 : D := .lst [.int 5, .int 10, .int 67, .int 68, .int 69]
def Nq34 : D := .lst [.int 10, .int 55, .int 56, .int 70, .int 71]
def Nq35 : D := .lst [.int 5, .int 25, .int 59, .int 60, .int 72]
def Nq36 : D := .lst [.int 5, .int 10, .int 73, .int 74, .int 75]
def Nq37 : D := .lst [.int 10, .int 55, .int 76, .int 77, .int 78]
def Nq38 : D := .lst [.int 5, .int 10, .int 67, .int 68, .int 79]
def Nq39 : D := .lst [.int 10, .int 11, .int 62, .int 80, .int 81]
def Nq40 : D := .lst [.int 5, .int 25, .int 34, .int 82, .int 83]
def Nq41 : D := .lst [.int 5, .int 25, .int 84, .int 85, .int 86]
def Nq42 : D := .lst [.int 5, .int 10, .int 73, .int 87, .int 88]
def Nq43 : D := .lst [.int 10, .int 55, .int 76, .int 77, .int 89]
def Nq44 : D := .lst [.int 5, .int 5, .int 10, .int 11, .int 22]
def Nq45 : D := .lst [.int 5, .int 5, .int 5, .int 25, .int 26]
def Nq46 : D := .lst [.int 5, .int 5, .int 5, .int 5, .int 49]
def Nq47 : D := .lst [.int 0, .int 15, .int 16, .int 90, .int 91]
def Nq48 : D := .lst [.int 5, .int 6, .int 19, .int 20, .int 92]
def Nq49 : D := .lst [.int 10, .int 11, .int 12, .int 93, .int 94]
def Nq50 : D := .lst [.int 0, .int 15, .int 16, .int 17, .int 95]
def Nq51 : D := .lst [.int 5, .int 0, .int 15, .int 16, .int 90]
def Nq52 : D := .lst [.int 5, .int 5, .int 6, .int 19, .int 20]
def Nq53 : D := .lst [.int 5, .int 10, .int 11, .int 12, .int 93]
def Nq54 : D := .lst [.int 5, .int 10, .int 73, .int 96, .int 97]
def Nq55 : D := .lst [.int 10, .int 11, .int 62, .int 98, .int 99]
def Nq56 : D := .lst [.int 5, .int 25, .int 26, .int 65, .int 100]
def Nq57 : D := .lst [.int 5, .int 5, .int 10, .int 73, .int 96]
def Nq58 : D := .lst [.int 5, .int 10, .int 11, .int 62, .int 98]
def Nq59 : D := .lst [.int 5, .int 25, .int 34, .int 35, .int 101]
def Nq60 : D := .lst [.int 5, .int 5, .int 29, .int 102, .int 103]
def Nq61 : D := .lst [.int 10, .int 11, .int 22, .int 32, .int 104]
def Nq62 : D := .lst [.int 5, .int 37, .int 46, .int 47, .int 105]
def Nq63 : D := .lst [.int 10, .int 11, .int 41, .int 106, .int 107]
def Nq64 : D := .lst [.int 0, .int 15, .int 16, .int 44, .int 108]
def Nq65 : D := .lst [.int 10, .int 55, .int 76, .int 77, .int 109]
def Nq66 : D := .lst [.int 5, .int 25, .int 59, .int 110, .int 111]
def Nq67 : D := .lst [.int 5, .int 25, .int 34, .int 82, .int 112]
def Nq68 : D := .lst [.int 5, .int 10, .int 67, .int 113, .int 114]
def Nq69 : D := .lst [.int 10, .int 55, .int 76, .int 115, .int 116]
def Nq70 : D := .lst [.int 5, .int 25, .int 59, .int 110, .int 117]
def Nq71 : D := .lst [.int 5, .int 10, .int 73, .int 74, .int 118]
def Nq72 : D := .lst [.int 5, .int 10, .int 67, .int 113, .int 119]
def Nq73 : D := .lst [.int 10, .int 11, .int 62, .int 80, .int 120]
def Nq74 : D := .lst [.int 5, .int 5, .int 49, .int 121, .int 122]
def Nq75 : D := .lst [.int 10, .int 11, .int 22, .int 52, .int 123]
def Nq76 : D := .lst [.int 5, .int 10, .int 73, .int 96, .int 124]
def Nq77 : D := .lst [.int 5, .int 25, .int 84, .int 85, .int 125]
def Nq78 : D := .lst [.int 5, .int 5, .int 37, .int 46, .int 47]
def Nq79 : D := .lst [.int 5, .int 10, .int 11, .int 41, .int 106]
def Nq80 : D := .lst [.int 5, .int 10, .int 73, .int 126, .int 127]
def Nq81 : D := .lst [.int 5, .int 25, .int 84, .int 128, .int 129]
def Nq82 : D := .lst [.int 5, .int 10, .int 11, .int 62, .int 63]
def Nq83 : D := .lst [.int 5, .int 5, .int 25, .int 26, .int 65]
def Nq84 : D := .lst [.int 5, .int 25, .int 34, .int 35, .int 130]
def Nq85 : D := .lst [.int 5, .int 10, .int 73, .int 126, .int 131]
def Nq86 : D := .lst [.int 10, .int 11, .int 62, .int 98, .int 132]
def Nq87 : D := .lst [.int 5, .int 25, .int 84, .int 128, .int 133]
def Nq88 : D := .lst [.int 5, .int 10, .int 73, .int 87, .int 134]
def Nq89 : D := .lst [.int 5, .int 25, .int 34, .int 82, .int 135]
def Nq90 : D := .lst [Nq0, Nq1, Nq2, Nq3, Nq4, Nq5, Nq6, Nq7, Nq8, Nq9, Nq10, Nq11, Nq12, Nq13, Nq14, Nq15, Nq16, Nq17, Nq18, Nq19, Nq20, Nq21, Nq22, Nq23, Nq24, Nq25, Nq26, Nq27, Nq28, Nq0, Nq1, Nq2, Nq29, Nq30, Nq31, Nq32, Nq33, Nq34, Nq35, Nq36, Nq37, Nq38, Nq39, Nq40, Nq17, Nq18, Nq41, Nq42, Nq43, Nq44, Nq45, Nq46, Nq23, Nq24, Nq28, Nq47, Nq48, Nq49, Nq50, Nq51, Nq52, Nq53, Nq54, Nq55, Nq56, Nq57, Nq58, Nq47, Nq48, Nq49, Nq49, Nq50, Nq53, Nq59, Nq60, Nq61, Nq62, Nq63, Nq64, Nq49, Nq65, Nq66, Nq67, Nq68, Nq69, Nq70, Nq71, Nq72, Nq73, Nq64, Nq17, Nq18, Nq21, Nq13, Nq14, Nq18, Nq74, Nq75, Nq55, Nq56, Nq58, Nq76, Nq15, Nq16, Nq77, Nq43, Nq39, Nq40, Nq18, Nq64, Nq78, Nq79, Nq80, Nq62, Nq63, Nq63, Nq64, Nq79, Nq61, Nq63, Nq81, Nq82, Nq83, Nq84, Nq75, Nq71, Nq85, Nq86, Nq87, Nq88, Nq76, Nq86, Nq89, Nq88, Nq73, Nq80]
def Nq91 : D := .lst [.tup [.bl true, .bl false], .tup [.bl false, .bl false], .tup [.bl false, .bl true], .tup [.bl true, .bl false], .tup [.bl false, .bl false], .tup [.bl false, .bl false], .tup [.bl false, .bl false], .tup [.bl false, .bl false], .tup [.bl false, .bl false], .tup [.bl false, .bl false], .tup [.bl false, .bl true], .tup [.bl false, .bl false], .tup [.bl false, .bl false], .tup [.bl false, .bl true], .tup [.bl false, .bl false], .tup [.bl false, .bl false], .tup [.bl false, .bl true], .tup [.bl true, .bl false], .tup [.bl false, .bl false], .tup [.bl false, .bl false], .tup [.bl false, .bl false], .tup [.bl false, .bl false], .tup [.bl false, .bl false], .tup [.bl false, .bl true], .tup [.bl false, .bl false], .tup [.bl false, .bl false], .tup [.bl false, .bl false], .tup [.bl false, .bl false], .tup [.bl false, .bl false], .tup [.bl true, .bl false], .tup [.bl false, .bl false], .tup [.bl false, .bl true], .tup [.bl false, .bl true], .tup [.bl false, .bl false], .tup [.bl false, .bl true], .tup [.bl false, .bl false], .tup [.bl false, .bl false], .tup [.bl false, .bl true], .tup [.bl false, .bl false], .tup [.bl false, .bl false], .tup [.bl false, .bl true], .tup [.bl false, .bl false], .tup [.bl false, .bl true], .tup [.bl false, .bl false], .tup [.bl true, .bl false], .tup [.bl false, .bl false], .tup [.bl false, .bl false], .tup [.bl false, .bl false], .tup [.bl false, .bl true], .tup [.bl false, .bl false], .tup [.bl false, .bl false], .tup [.bl false, .bl false], .tup [.bl false, .bl true], .tup [.bl false, .bl false], .tup [.bl false, .bl false], .tup [.bl true, .bl false], .tup [.bl false, .bl false], .tup [.bl false, .bl true], .tup [.bl true, .bl false], .tup [.bl false, .bl false], .tup [.bl false, .bl false], .tup [.bl false, .bl false], .tup [.bl false, .bl false], .tup [.bl false, .bl true], .tup [.bl false, .bl false], .tup [.bl false, .bl false], .tup [.bl false, .bl false], .tup [.bl true, .bl false], .tup [.bl false, .bl false], .tup [.bl false, .bl true], .tup [.bl false, .bl true], .tup [.bl true, .bl false], .tup [.bl false, .bl false], .tup [.bl false, .bl false], .tup [.bl false, .bl false], .tup [.bl false, .bl true], .tup [.bl false, .bl false], .tup [.bl false, .bl true], .tup [.bl true, .bl false], .tup [.bl false, .bl true], .tup [.bl false, .bl true], .tup [.bl false, .bl false], .tup [.bl false, .bl false], .tup [.bl false, .bl false], .tup [.bl false, .bl true], .tup [.bl false, .bl false], .tup [.bl false, .bl false], .tup [.bl false, .bl false], .tup [.bl false, .bl true], .tup [.bl true, .bl false], .tup [.bl true, .bl false], .tup [.bl false, .bl false], .tup [.bl false, .bl false], .tup [.bl false, .bl true], .tup [.bl false, .bl false], .tup [.bl false, .bl false], .tup [.bl false, .bl false], .tup [.bl false, .bl true], .tup [.bl false, .bl true], .tup [.bl false, .bl false], .tup [.bl false, .bl false], .tup [.bl false, .bl false], .tup [.bl false, .bl false], .tup [.bl false, .bl true], .tup [.bl false, .bl false], .tup [.bl false, .bl true], .tup [.bl false, .bl true], .tup [.bl false, .bl false], .tup [.bl false, .bl false], .tup [.bl true, .bl false], .tup [.bl false, .bl false], .tup [.bl false, .bl false], .tup [.bl false, .bl false], .tup [.bl false, .bl false], .tup [.bl false, .bl true], .tup [.bl false, .bl true], .tup [.bl true, .bl false], .tup [.bl false, .bl false], .tup [.bl false, .bl true], .tup [.bl false, .bl true], .tup [.bl false, .bl false], .tup [.bl false, .bl false], .tup [.bl false, .bl false], .tup [.bl false, .bl false], .tup [.bl false, .bl true], .tup [.bl false, .bl false], .tup [.bl false, .bl false], .tup [.bl false, .bl true], .tup [.bl false, .bl false], .tup [.bl false, .bl false], .tup [.bl false, .bl false], .tup [.bl false, .bl true], .tup [.bl false, .bl false], .tup [.bl false, .bl false], .tup [.bl false, .bl true], .tup [.bl false, .bl false]]
def Nq92 : D := .lst [.int 0, .int 1, .int 2, .int 3, .int 4, .int 5, .int 6, .int 7, .int 8, .int 9, .int 10, .int 11, .int 12, .int 13, .int 14, .int 15, .int 16, .int 3, .int 17, .int 18, .int 19, .int 9, .int 20, .int 10, .int 11, .int 21, .int 22, .int 23, .int 21, .int 0, .int 1, .int 2, .int 24, .int 25, .int 26, .int 27, .int 28, .int 24, .int 25, .int 29, .int 30, .int 28, .int 31, .int 32, .int 3, .int 17, .int 33, .int 34, .int 30, .int 35, .int 36, .int 37, .int 10, .int 11, .int 21, .int 3, .int 4, .int 2, .int 3, .int 9, .int 38, .int 8, .int 39, .int 26, .int 27, .int 40, .int 41, .int 3, .int 4, .int 2, .int 2, .int 3, .int 8, .int 42, .int 43, .int 44, .int 17, .int 16, .int 3, .int 2, .int 30, .int 45, .int 46, .int 47, .int 30, .int 45, .int 29, .int 47, .int 48, .int 3, .int 3, .int 17, .int 9, .int 13, .int 14, .int 17, .int 49, .int 50, .int 26, .int 27, .int 41, .int 39, .int 15, .int 16, .int 33, .int 30, .int 31, .int 32, .int 17, .int 3, .int 51, .int 19, .int 52, .int 17, .int 16, .int 16, .int 3, .int 19, .int 44, .int 16, .int 53, .int 41, .int 54, .int 42, .int 50, .int 29, .int 52, .int 55, .int 53, .int 34, .int 39, .int 55, .int 46, .int 34, .int 48, .int 52]
def Nq93 : D := .tup [.int 0, .int 1, .int 2, .int 3, .int 4]
def Nq94 : D := .tup [Nq93, .tup [.bl true, .bl false]]
def Nq95 : D := .tup [.int 5, .int 6, .int 7, .int 8, .int 9]
def Nq96 : D := .tup [Nq95, .tup [.bl false, .bl false]]
def Nq97 : D := .tup [.int 10, .int 11, .int 12, .int 13, .int 14]
def Nq98 : D := .tup [Nq97, .tup [.bl false, .bl true]]
def Nq99 : D := .tup [.int 0, .int 15, .int 16, .int 3, .int 17]
def Nq100 : D := .tup [Nq99, .tup [.bl true, .bl false]]
def Nq101 : D := .tup [.int 5, .int 6, .int 18, .int 19, .int 9]
def Nq102 : D := .tup [Nq101, .tup [.bl false, .bl false]]
def Nq103 : D := .tup [.int 5, .int 5, .int 5, .int 5, .int 5]
def Nq104 : D := .tup [Nq103, .tup [.bl false, .bl false]]
def Nq105 : D := .tup [.int 5, .int 0, .int 1, .int 2, .int 3]
def Nq106 : D := .tup [Nq105, .tup [.bl false, .bl false]]
def Nq107 : D := .tup [.int 5, .int 5, .int 6, .int 7, .int 8]
def Nq108 : D := .tup [Nq107, .tup [.bl false, .bl false]]
def Nq109 : D := .tup [.int 5, .int 10, .int 11, .int 12, .int 13]
def Nq110 : D := .tup [Nq109, .tup [.bl false, .bl false]]
def Nq111 : D := .tup [.int 5, .int 0, .int 15, .int 16, .int 3]
def Nq112 : D := .tup [Nq111, .tup [.bl false, .bl false]]
def Nq113 : D := .tup [.int 10, .int 11, .int 20, .int 10, .int 11]
def Nq114 : D := .tup [Nq113, .tup [.bl false, .bl true]]
def Nq115 : D := .tup [.int 5, .int 21, .int 22, .int 23, .int 21]
def Nq116 : D := .tup [Nq115, .tup [.bl false, .bl false]]
def Nq117 : D := .tup [.int 5, .int 5, .int 0, .int 1, .int 2]
def Nq118 : D := .tup [Nq117, .tup [.bl false, .bl false]]
def Nq119 : D := .tup [.int 10, .int 11, .int 20, .int 24, .int 25]
def Nq120 : D := .tup [Nq119, .tup [.bl false, .bl true]]
def Nq121 : D := .tup [.int 5, .int 21, .int 26, .int 27, .int 28]
def Nq122 : D := .tup [Nq121, .tup [.bl false, .bl false]]
def Nq123 : D := .tup [.int 5, .int 24, .int 25, .int 29, .int 30]
def Nq124 : D := .tup [Nq123, .tup [.bl false, .bl false]]
def Nq125 : D := .tup [.int 10, .int 11, .int 28, .int 31, .int 32]
def Nq126 : D := .tup [Nq125, .tup [.bl false, .bl true]]
def Nq127 : D := .tup [.int 5, .int 24, .int 33, .int 34, .int 30]
def Nq128 : D := .tup [Nq127, .tup [.bl false, .bl false]]
def Nq129 : D := .tup [.int 5, .int 5, .int 24, .int 25, .int 29]
def Nq130 : D := .tup [Nq129, .tup [.bl false, .bl false]]
def Nq131 : D := .tup [.int 5, .int 10, .int 11, .int 28, .int 31]
def Nq132 : D := .tup [Nq131, .tup [.bl false, .bl false]]
def Nq133 : D := .tup [.int 5, .int 5, .int 35, .int 36, .int 37]
def Nq134 : D := .tup [Nq133, .tup [.bl false, .bl false]]
def Nq135 : D := .tup [.int 5, .int 10, .int 11, .int 20, .int 10]
def Nq136 : D := .tup [Nq135, .tup [.bl false, .bl false]]
def Nq137 : D := .tup [.int 5, .int 5, .int 21, .int 22, .int 23]
def Nq138 : D := .tup [Nq137, .tup [.bl false, .bl false]]
def Nq139 : D := .tup [.int 5, .int 5, .int 5, .int 35, .int 36]
def Nq140 : D := .tup [Nq139, .tup [.bl false, .bl false]]
def Nq141 : D := .tup [.int 10, .int 3, .int 4, .int 2, .int 3]
def Nq142 : D := .tup [Nq141, .tup [.bl false, .bl true]]
def Nq143 : D := .tup [.int 5, .int 21, .int 9, .int 38, .int 8]
def Nq144 : D := .tup [Nq143, .tup [.bl false, .bl false]]
def Nq145 : D := .tup [.int 10, .int 11, .int 39, .int 26, .int 27]
def Nq146 : D := .tup [Nq145, .tup [.bl false, .bl true]]
def Nq147 : D := .tup [.int 5, .int 21, .int 22, .int 40, .int 41]
def Nq148 : D := .tup [Nq147, .tup [.bl false, .bl false]]
def Nq149 : D := .tup [.int 5, .int 10, .int 3, .int 4, .int 2]
def Nq150 : D := .tup [Nq149, .tup [.bl false, .bl false]]
def Nq151 : D := .tup [.int 5, .int 10, .int 42, .int 43, .int 44]
def Nq152 : D := .tup [Nq151, .tup [.bl false, .bl false]]
def Nq153 : D := .tup [.int 10, .int 3, .int 17, .int 16, .int 3]
def Nq154 : D := .tup [Nq153, .tup [.bl false, .bl true]]
def Nq155 : D := .tup [.int 10, .int 11, .int 39, .int 30, .int 45]
def Nq156 : D := .tup [Nq155, .tup [.bl false, .bl true]]
def Nq157 : D := .tup [.int 5, .int 21, .int 26, .int 46, .int 47]
def Nq158 : D := .tup [Nq157, .tup [.bl false, .bl false]]
def Nq159 : D := .tup [.int 5, .int 21, .int 30, .int 45, .int 29]
def Nq160 : D := .tup [Nq159, .tup [.bl false, .bl false]]
def Nq161 : D := .tup [.int 5, .int 10, .int 42, .int 47, .int 48]
def Nq162 : D := .tup [Nq161, .tup [.bl false, .bl false]]
def Nq163 : D := .tup [.int 5, .int 5, .int 10, .int 11, .int 20]
def Nq164 : D := .tup [Nq163, .tup [.bl false, .bl false]]
def Nq165 : D := .tup [.int 5, .int 5, .int 5, .int 21, .int 22]
def Nq166 : D := .tup [Nq165, .tup [.bl false, .bl false]]
def Nq167 : D := .tup [.int 5, .int 5, .int 5, .int 5, .int 35]
def Nq168 : D := .tup [Nq167, .tup [.bl false, .bl false]]
def Nq169 : D := .tup [.int 5, .int 5, .int 6, .int 18, .int 19]
def Nq170 : D := .tup [Nq169, .tup [.bl false, .bl false]]
def Nq171 : D := .tup [.int 5, .int 10, .int 42, .int 49, .int 50]
def Nq172 : D := .tup [Nq171, .tup [.bl false, .bl false]]
def Nq173 : D := .tup [.int 5, .int 5, .int 10, .int 42, .int 49]
def Nq174 : D := .tup [Nq173, .tup [.bl false, .bl false]]
def Nq175 : D := .tup [.int 5, .int 10, .int 11, .int 39, .int 26]
def Nq176 : D := .tup [Nq175, .tup [.bl false, .bl false]]
def Nq177 : D := .tup [.int 5, .int 21, .int 26, .int 27, .int 39]
def Nq178 : D := .tup [Nq177, .tup [.bl false, .bl false]]
def Nq179 : D := .tup [.int 5, .int 5, .int 0, .int 15, .int 16]
def Nq180 : D := .tup [Nq179, .tup [.bl false, .bl false]]
def Nq181 : D := .tup [.int 10, .int 11, .int 20, .int 24, .int 33]
def Nq182 : D := .tup [Nq181, .tup [.bl false, .bl true]]
def Nq183 : D := .tup [.int 5, .int 21, .int 9, .int 51, .int 19]
def Nq184 : D := .tup [Nq183, .tup [.bl false, .bl false]]
def Nq185 : D := .tup [.int 5, .int 21, .int 26, .int 46, .int 52]
def Nq186 : D := .tup [Nq185, .tup [.bl false, .bl false]]
def Nq187 : D := .tup [.int 5, .int 10, .int 3, .int 17, .int 16]
def Nq188 : D := .tup [Nq187, .tup [.bl false, .bl false]]
def Nq189 : D := .tup [.int 10, .int 11, .int 39, .int 30, .int 53]
def Nq190 : D := .tup [Nq189, .tup [.bl false, .bl true]]
def Nq191 : D := .tup [.int 5, .int 5, .int 35, .int 41, .int 54]
def Nq192 : D := .tup [Nq191, .tup [.bl false, .bl false]]
def Nq193 : D := .tup [.int 10, .int 11, .int 20, .int 10, .int 42]
def Nq194 : D := .tup [Nq193, .tup [.bl false, .bl true]]
def Nq195 : D := .tup [.int 5, .int 5, .int 24, .int 33, .int 34]
def Nq196 : D := .tup [Nq195, .tup [.bl false, .bl false]]
def Nq197 : D := .tup [.int 5, .int 10, .int 42, .int 52, .int 55]
def Nq198 : D := .tup [Nq197, .tup [.bl false, .bl false]]
def Nq199 : D := .tup [.int 5, .int 21, .int 30, .int 53, .int 34]
def Nq200 : D := .tup [Nq199, .tup [.bl false, .bl false]]
def Nq201 : D := .tup [.int 5, .int 5, .int 21, .int 22, .int 40]
def Nq202 : D := .tup [Nq201, .tup [.bl false, .bl false]]
def Nq203 : D := .tup [.int 10, .int 11, .int 39, .int 26, .int 46]
def Nq204 : D := .tup [Nq203, .tup [.bl false, .bl true]]
def Nq205 : D := .lst [Nq94, Nq96, Nq98, Nq100, Nq102, Nq104, Nq106, Nq108, Nq110, Nq112, Nq114, Nq116, Nq118, Nq120, Nq122, Nq124, Nq126, Nq128, Nq130, Nq132, Nq134, Nq136, Nq138, Nq140, Nq142, Nq144, Nq146, Nq148, Nq150, Nq152, Nq154, Nq156, Nq158, Nq160, Nq162, Nq164, Nq166, Nq168, Nq170, Nq172, Nq174, Nq176, Nq178, Nq180, Nq182, Nq184, Nq186, Nq188, Nq190, Nq192, Nq194, Nq196, Nq198, Nq200, Nq202, Nq204]
def Nq206 : D := .tup [Nq94, Nq96, Nq98, Nq100, Nq102, Nq104, Nq106, Nq108, Nq110, Nq112, Nq114, Nq116, Nq118, Nq120, Nq122, Nq124, Nq126, Nq128, Nq130, Nq132, Nq134, Nq136, Nq138, Nq140, Nq142, Nq144, Nq146, Nq148, Nq150, Nq152, Nq154, Nq156, Nq158, Nq160, Nq162, Nq164, Nq166, Nq168, Nq170, Nq172, Nq174, Nq176, Nq178, Nq180, Nq182, Nq184, Nq186, Nq188, Nq190, Nq192, Nq194, Nq196, Nq198, Nq200, Nq202, Nq204]
def Ne0 : List Sl := [.un, .un, .dat Nq90, .dat Nq91, .un, .un, .un]
def Ne1 : List Sl := [.cel Nq92, .un, .dat Nq90, .dat Nq91, .un, .un, .un]
def Ne2 : List Sl := [.cel Nq92, .cel (.lst []), .dat Nq90, .dat Nq91, .un, .un, .un]
def Ne3 : List Sl := [.dat Nq92, .cel (.lst []), .dat Nq90, .dat Nq91, .un, .un, .un]
def Ne4 : List Sl := [.dat Nq92, .cel Nq205, .dat Nq90, .dat Nq91, .dat (.int 135), .dat (.int 52), .un]
def NV : D := Nq206
theorem Nc0 : (P.cl 6).call 3 [] [] = .ok (.dat AV) [] := (cl_call P 6 3 [] []).trans A_val
theorem Nt0 : exSs (P.cl 6) (startS fd_machine []) (dropS 0 fd_machine.body) [] = exSs (P.cl 6) Ne0 (dropS 1 fd_machine.body) [] := at_call (b := fd_machine.body) 0 (f := 3) (ds := []) (v := (.dat AV)) rfl (by decide +kernel) Nc0 (by decide +kernel)
theorem Nc1 : (P.cl 6).call 4 Bargs [] = .ok (.frs BV) [] := (cl_call P 6 4 Bargs []).trans B_val
theorem Nt1 : exSs (P.cl 6) Ne0 (dropS 1 fd_machine.body) [] = exSs (P.cl 6) Ne1 (dropS 2 fd_machine.body) [] := at_call (b := fd_machine.body) 1 (f := 4) (ds := Bargs) (v := (.frs BV)) rfl (by decide +kernel) Nc1 (by decide +kernel)
theorem Nt2 : exSs (P.cl 6) Ne1 (dropS 2 fd_machine.body) [] = exSs (P.cl 6) Ne2 (dropS 3 fd_machine.body) [] := at_st (b := fd_machine.body) 2 rfl (by decide +kernel)
theorem Nt3 : exSs (P.cl 6) Ne2 (dropS 3 fd_machine.body) [] = exSs (P.cl 6) Ne3 (dropS 4 fd_machine.body) [] := at_st (b := fd_machine.body) 3 rfl (by decide +kernel)
theorem Nt4 : exSs (P.cl 6) Ne3 (dropS 4 fd_machine.body) [] = exSs (P.cl 6) Ne4 (dropS 5 fd_machine.body) [] := at_st (b := fd_machine.body) 4 rfl (by decide +kernel)
theorem Nr : inR (exSs (P.cl 6) Ne4 (dropS 5 fd_machine.body) []) (.dat NV) = true := by decide +kernel
theorem N_val : callN P 7 6 [] [] = .ok (.dat NV) [] := call_ret (fd := fd_machine) rfl rfl (Nt0.trans (Nt1.trans (Nt2.trans (Nt3.trans (Nt4.trans (inR_eq Nr))))))
end MW
namespace MW
open PySem (Str)
theorem asg_callv {c : CL} {ρ ρ' : List Sl} {t : Tg} {f : Nat} {v : Vl} (h2 : c.call f [] [] = .ok v []) (h3 : asgT t v ρ = some ρ') : exS c ρ (.asg t (.call f .nil)) [] = .ok (.nx ρ') [] := by
  simp only [exS, ev, evs, lift, bnd, pur, h2, h3, opt, nxt]
theorem ret_same {c : CL} {ρ : List Sl} {f i : Nat} {v w : D} (h2 : c.call f [] [] = .ok (.dat v) []) (hb : slot ρ i = .dat w) (hc : cmpE c .eq v w [] = .ok (.dat (.bl true)) []) : exS c ρ (.ret (.cmp .eq (.call f .nil) (.bor i))) [] = .ok (.ret (.dat (.bl true))) [] := by
  simp only [exS, ev, evs, lift, bnd, pur, h2, hb, Vl.d, hc]
def Cm : D := match CV with
  | .tup [a, _] => a
  | _ => .non
def Ca : D := match CV with
  | .tup [_, a] => a
  | _ => .non
def e0 (ns : List Int) : List Sl := [.dat (.scr ns), .un, .un, .un, .un]
def e1 (ns : List Int) : List Sl := [.dat (.scr ns), .un, .un, .dat Cm, .dat Ca]
def e2 (ns : List Int) : List Sl := [.dat (.scr ns), .dat NV, .un, .dat Cm, .dat Ca]
def e3 (ns : List Int) : List Sl := [.dat (.scr ns), .dat NV, .dat (.int 55), .dat Cm, .dat Ca]
theorem c12 : (P.cl 7).call 12 [] [] = .ok (.dat CV) [] := (cl_call P 7 12 [] []).trans C_val
theorem c6 : (P.cl 7).call 6 [] [] = .ok (.dat NV) [] := (cl_call P 7 6 [] []).trans N_val
theorem L0 (ns : List Int) : exS (P.cl 7) (e0 ns) (.asg (.tp [.nm 3, .nm 4]) (.call 12 .nil)) [] = .ok (.nx (e1 ns)) [] := asg_callv c12 (by kernel_rfl)
theorem L1 (ns : List Int) : exS (P.cl 7) (e1 ns) (.asg (.nm 1) (.call 6 .nil)) [] = .ok (.nx (e2 ns)) [] := asg_callv c6 (by kernel_rfl)
theorem L2' (ns : List Int) : exS (P.cl 7) (e2 ns) (nthS fd_law.body 2) [] = .ok (.nx (e2 ns)) [] := by kernel_rfl
theorem L3 (ns : List Int) : exS (P.cl 7) (e2 ns) (nthS fd_law.body 3) [] = .ok (.nx (e3 ns)) [] := by kernel_rfl
theorem same : cmpD .eq NV NV = some true := by kernel_rfl
theorem L4 (ns : List Int) : exS (P.cl 7) (e3 ns) (.ret (.cmp .eq (.call 6 .nil) (.bor 1))) [] = .ok (.ret (.dat (.bl true))) [] := ret_same c6 (w := NV) (by kernel_rfl) (by kernel_rfl)
theorem ret_last {c : CL} {ρ : List Sl} {s : S} {v : Vl} (h : exS c ρ s [] = .ok (.ret v) []) : exSs c ρ (.cons s .nil) [] = .ok (.ret v) [] := by
  simp only [exSs, bnd, h, pur]
theorem law_body : dropS 0 fd_law.body = .cons (.asg (.tp [.nm 3, .nm 4]) (.call 12 .nil)) (.cons (.asg (.nm 1) (.call 6 .nil)) (.cons (nthS fd_law.body 2) (.cons (nthS fd_law.body 3) (.cons (.ret (.cmp .eq (.call 6 .nil) (.bor 1))) .nil)))) := rfl
theorem law_start (ns : List Int) : startS fd_law [.scr ns] = e0 ns := rfl
theorem law_run (ns : List Int) : exSs (P.cl 7) (startS fd_law [.scr ns]) (dropS 0 fd_law.body) [] = .ok (.ret (.dat (.bl true))) [] := by
  rw [law_body, law_start]
  exact (exSs_step (L0 ns)).trans ((exSs_step (L1 ns)).trans ((exSs_step (L2' ns)).trans ((exSs_step (L3 ns)).trans (ret_last (L4 ns)))))
theorem law_true (ns : List Int) (h : ns.length ≤ 63) : callN P 8 lawN [.scr ns] [] = .ok (.dat (.bl true)) [] := call_ret (n := 7) (f := 13) (fd := fd_law) rfl rfl (law_run ns)
end MW
namespace MW
open PySem PySem.Spec PyProof.Rows L2
def row (i : Nat) : Stmt := PySem.Challenge.pw_meldwaits_k30_whole_machine.main.body.getD i (.Pass ⟨0, 0, 0, 0⟩)
abbrev rw0 : Stmt := row 1
def dt0 : DT := ⟨0, "goings", ["stand", "used", "left", "found", "q", "a", "b", "p", "rest", "t", "r"], 3, rw0⟩
abbrev rw1 : Stmt := row 5
def dt1 : DT := ⟨1, "stands_behind", ["stands", "count", "found", "stand", "new", "_"], 2, rw1⟩
abbrev rw2 : Stmt := row 6
def dt2 : DT := ⟨2, "marks_of", ["stands"], 1, rw2⟩
abbrev rw3 : Stmt := row 7
def dt3 : DT := ⟨3, "sets_reached", ["numbers", "order", "steps", "row", "count", "later", "stands"], 0, rw3⟩
abbrev rw4 : Stmt := row 8
def dt4 : DT := ⟨4, "classes_of", ["steps", "marks", "found", "many", "at", "row", "later"], 2, rw4⟩
abbrev rw5 : Stmt := row 9
def dt5 : DT := ⟨5, "numbered", ["keys", "known", "found", "key"], 1, rw5⟩
abbrev rw6 : Stmt := row 10
def dt6 : DT := ⟨6, "machine", ["classes", "found", "steps", "marks", "at", "own", "later"], 0, rw6⟩
abbrev rw7 : Stmt := row 12
def dt7 : DT := ⟨7, "_law_whole", ["value"], 1, rw7⟩
abbrev rw8 : Stmt := row 13
def dt8 : DT := ⟨8, "_law_is_numbers", ["value", "many", "one"], 2, rw8⟩
abbrev rw9 : Stmt := row 14
def dt9 : DT := ⟨9, "_law_is_due", ["told", "due"], 2, rw9⟩
abbrev rw10 : Stmt := row 15
def dt10 : DT := ⟨10, "_law_set_on", ["stands", "c", "found", "a", "b", "p", "q", "t", "r"], 2, rw10⟩
abbrev rw11 : Stmt := row 16
def dt11 : DT := ⟨11, "_law_answer", ["stands"], 1, rw11⟩
abbrev rw12 : Stmt := row 17
def dt12 : DT := ⟨12, "_law_machine", ["sets", "moves", "at", "turn", "kinds", "order", "k", "first", "names", "more", "same", "row", "c", "one", "sign", "kind", "new", "stands", "j"], 0, rw12⟩
abbrev rw13 : Stmt := row 18
def dt13 : DT := ⟨13, "law", ["script", "told", "k", "moves", "answers"], 1, rw13⟩
def defs : List DT := [dt0, dt1, dt2, dt3, dt4, dt5, dt6, dt7, dt8, dt9, dt10, dt11, dt12, dt13]
def gls : List (Str × D) := [("MANY_BEHIND", (.int 2)), ("MOST_OF_ONE", (.int 4))]
theorem ok_dt0 : defB defs gls P dt0 = true := by decide +kernel
theorem ok_dt1 : defB defs gls P dt1 = true := by decide +kernel
theorem ok_dt2 : defB defs gls P dt2 = true := by decide +kernel
theorem ok_dt3 : defB defs gls P dt3 = true := by decide +kernel
theorem ok_dt4 : defB defs gls P dt4 = true := by decide +kernel
theorem ok_dt5 : defB defs gls P dt5 = true := by decide +kernel
theorem ok_dt6 : defB defs gls P dt6 = true := by decide +kernel
theorem ok_dt7 : defB defs gls P dt7 = true := by decide +kernel
theorem ok_dt8 : defB defs gls P dt8 = true := by decide +kernel
theorem ok_dt9 : defB defs gls P dt9 = true := by decide +kernel
theorem ok_dt10 : defB defs gls P dt10 = true := by decide +kernel
theorem ok_dt11 : defB defs gls P dt11 = true := by decide +kernel
theorem ok_dt12 : defB defs gls P dt12 = true := by decide +kernel
theorem ok_dt13 : defB defs gls P dt13 = true := by decide +kernel
def gx (q : Program) (w : World) (K : PySem.W.Frag) : GX := ⟨q, w, K, fun _ => 0, [], []⟩
theorem all_mk {q : Program} {w : World} {K : PySem.W.Frag} {h : Heap} {mg : Str → Option Value} {fa f0 f1 f2 f3 f4 f5 f6 f7 f8 f9 f10 f11 f12 f13 : Addr} (X : K.In h) (G : h.Ns mainGlobals mg) (hfa : mg "law" = some (.ref fa))
    {od0 an0 od1 an1 od2 an2 od3 an3 od4 an4 od5 an5 od6 an6 od7 an7 od8 an8 od9 an9 od10 an10 od11 an11 od12 an12 od13 an13 : Option Addr} {sl0 sl1 sl2 sl3 sl4 sl5 sl6 sl7 sl8 sl9 sl10 sl11 sl12 sl13 : Array (Option Value)} {oc0 kV0 dc0 pm0 cd0 ct0 oc1 kV1 dc1 pm1 cd1 ct1 oc2 kV2 dc2 pm2 cd2 ct2 oc3 kV3 dc3 pm3 cd3 ct3 oc4 kV4 dc4 pm4 cd4 ct4 oc5 kV5 dc5 pm5 cd5 ct5 oc6 kV6 dc6 pm6 cd6 ct6 oc7 kV7 dc7 pm7 cd7 ct7 oc8 kV8 dc8 pm8 cd8 ct8 oc9 kV9 dc9 pm9 cd9 ct9 oc10 kV10 dc10 pm10 cd10 ct10 oc11 kV11 dc11 pm11 cd11 ct11 oc12 kV12 dc12 pm12 cd12 ct12 oc13 kV13 dc13 pm13 cd13 ct13 : Value} {tk0 tk1 : Tok}
    (a0 : PySem.W.nsIn K mainGlobals "goings" = some (some (.ref f0)))
    (l0 : K.lookup f0 = some ⟨oc0, od0, .func (PySem.W.fnOf "goings" "goings" (defArgs rw0) (defBody rw0) (defScope rw0) .none kV0 dc0 pm0 an0 cd0 ct0), sl0⟩)
    (c0 : PySem.W.codeIn K cd0 "goings" = true) (k0 : PySem.W.keepIn K (.ref f0) = true)
    (a1 : PySem.W.nsIn K mainGlobals "stands_behind" = some (some (.ref f1)))
    (l1 : K.lookup f1 = some ⟨oc1, od1, .func (PySem.W.fnOf "stands_behind" "stands_behind" (defArgs rw1) (defBody rw1) (defScope rw1) .none kV1 dc1 pm1 an1 cd1 ct1), sl1⟩)
    (c1 : PySem.W.codeIn K cd1 "stands_behind" = true) (k1 : PySem.W.keepIn K (.ref f1) = true)
    (a2 : PySem.W.nsIn K mainGlobals "marks_of" = some (some (.ref f2)))
    (l2 : K.lookup f2 = some ⟨oc2, od2, .func (PySem.W.fnOf "marks_of" "marks_of" (defArgs rw2) (defBody rw2) (defScope rw2) .none kV2 dc2 pm2 an2 cd2 ct2), sl2⟩)
    (c2 : PySem.W.codeIn K cd2 "marks_of" = true) (k2 : PySem.W.keepIn K (.ref f2) = true)
    (a3 : PySem.W.nsIn K mainGlobals "sets_reached" = some (some (.ref f3)))
    (l3 : K.lookup f3 = some ⟨oc3, od3, .func (PySem.W.fnOf "sets_reached" "sets_reached" (defArgs rw3) (defBody rw3) (defScope rw3) .none kV3 dc3 pm3 an3 cd3 ct3), sl3⟩)
    (c3 : PySem.W.codeIn K cd3 "sets_reached" = true) (k3 : PySem.W.keepIn K (.ref f3) = true)
    (a4 : PySem.W.nsIn K mainGlobals "classes_of" = some (some (.ref f4)))
    (l4 : K.lookup f4 = some ⟨oc4, od4, .func (PySem.W.fnOf "classes_of" "classes_of" (defArgs rw4) (defBody rw4) (defScope rw4) .none kV4 dc4 pm4 an4 cd4 ct4), sl4⟩)
    (c4 : PySem.W.codeIn K cd4 "classes_of" = true) (k4 : PySem.W.keepIn K (.ref f4) = true)
    (a5 : PySem.W.nsIn K mainGlobals "numbered" = some (some (.ref f5)))
    (l5 : K.lookup f5 = some ⟨oc5, od5, .func (PySem.W.fnOf "numbered" "numbered" (defArgs rw5) (defBody rw5) (defScope rw5) .none kV5 dc5 pm5 an5 cd5 ct5), sl5⟩)
    (c5 : PySem.W.codeIn K cd5 "numbered" = true) (k5 : PySem.W.keepIn K (.ref f5) = true)
    (a6 : PySem.W.nsIn K mainGlobals "machine" = some (some (.ref f6)))
    (l6 : K.lookup f6 = some ⟨oc6, od6, .func (PySem.W.fnOf "machine" "machine" (defArgs rw6) (defBody rw6) (defScope rw6) .none kV6 dc6 pm6 an6 cd6 ct6), sl6⟩)
    (c6 : PySem.W.codeIn K cd6 "machine" = true) (k6 : PySem.W.keepIn K (.ref f6) = true)
    (a7 : PySem.W.nsIn K mainGlobals "_law_whole" = some (some (.ref f7)))
    (l7 : K.lookup f7 = some ⟨oc7, od7, .func (PySem.W.fnOf "_law_whole" "_law_whole" (defArgs rw7) (defBody rw7) (defScope rw7) .none kV7 dc7 pm7 an7 cd7 ct7), sl7⟩)
    (c7 : PySem.W.codeIn K cd7 "_law_whole" = true) (k7 : PySem.W.keepIn K (.ref f7) = true)
    (a8 : PySem.W.nsIn K mainGlobals "_law_is_numbers" = some (some (.ref f8)))
    (l8 : K.lookup f8 = some ⟨oc8, od8, .func (PySem.W.fnOf "_law_is_numbers" "_law_is_numbers" (defArgs rw8) (defBody rw8) (defScope rw8) .none kV8 dc8 pm8 an8 cd8 ct8), sl8⟩)
    (c8 : PySem.W.codeIn K cd8 "_law_is_numbers" = true) (k8 : PySem.W.keepIn K (.ref f8) = true)
    (a9 : PySem.W.nsIn K mainGlobals "_law_is_due" = some (some (.ref f9)))
    (l9 : K.lookup f9 = some ⟨oc9, od9, .func (PySem.W.fnOf "_law_is_due" "_law_is_due" (defArgs rw9) (defBody rw9) (defScope rw9) .none kV9 dc9 pm9 an9 cd9 ct9), sl9⟩)
    (c9 : PySem.W.codeIn K cd9 "_law_is_due" = true) (k9 : PySem.W.keepIn K (.ref f9) = true)
    (a10 : PySem.W.nsIn K mainGlobals "_law_set_on" = some (some (.ref f10)))
    (l10 : K.lookup f10 = some ⟨oc10, od10, .func (PySem.W.fnOf "_law_set_on" "_law_set_on" (defArgs rw10) (defBody rw10) (defScope rw10) .none kV10 dc10 pm10 an10 cd10 ct10), sl10⟩)
    (c10 : PySem.W.codeIn K cd10 "_law_set_on" = true) (k10 : PySem.W.keepIn K (.ref f10) = true)
    (a11 : PySem.W.nsIn K mainGlobals "_law_answer" = some (some (.ref f11)))
    (l11 : K.lookup f11 = some ⟨oc11, od11, .func (PySem.W.fnOf "_law_answer" "_law_answer" (defArgs rw11) (defBody rw11) (defScope rw11) .none kV11 dc11 pm11 an11 cd11 ct11), sl11⟩)
    (c11 : PySem.W.codeIn K cd11 "_law_answer" = true) (k11 : PySem.W.keepIn K (.ref f11) = true)
    (a12 : PySem.W.nsIn K mainGlobals "_law_machine" = some (some (.ref f12)))
    (l12 : K.lookup f12 = some ⟨oc12, od12, .func (PySem.W.fnOf "_law_machine" "_law_machine" (defArgs rw12) (defBody rw12) (defScope rw12) .none kV12 dc12 pm12 an12 cd12 ct12), sl12⟩)
    (c12 : PySem.W.codeIn K cd12 "_law_machine" = true) (k12 : PySem.W.keepIn K (.ref f12) = true)
    (a13 : PySem.W.nsIn K mainGlobals "law" = some (some (.ref f13)))
    (l13 : K.lookup f13 = some ⟨oc13, od13, .func (PySem.W.fnOf "law" "law" (defArgs rw13) (defBody rw13) (defScope rw13) .none kV13 dc13 pm13 an13 cd13 ct13), sl13⟩)
    (c13 : PySem.W.codeIn K cd13 "law" = true) (k13 : PySem.W.keepIn K (.ref f13) = true)
    (z0 : PySem.W.nsIn K mainGlobals "len" = some none)
    (z1 : PySem.W.nsIn K mainGlobals "sum" = some none)
    (z2 : PySem.W.nsIn K mainGlobals "max" = some none)
    (z3 : PySem.W.nsIn K mainGlobals "min" = some none)
    (z4 : PySem.W.nsIn K mainGlobals "all" = some none)
    (z5 : PySem.W.nsIn K mainGlobals "any" = some none)
    (z6 : PySem.W.nsIn K mainGlobals "sorted" = some none)
    (z7 : PySem.W.nsIn K mainGlobals "abs" = some none)
    (z8 : PySem.W.nsIn K mainGlobals "tuple" = some none)
    (z9 : PySem.W.nsIn K mainGlobals "list" = some none)
    (z10 : PySem.W.nsIn K mainGlobals "int" = some none)
    (z11 : PySem.W.nsIn K mainGlobals "str" = some none)
    (z12 : PySem.W.nsIn K mainGlobals "set" = some none)
    (z13 : PySem.W.nsIn K mainGlobals "isinstance" = some none)
    (z14 : PySem.W.nsIn K mainGlobals "range" = some none)
    (z15 : PySem.W.nsIn K mainGlobals "enumerate" = some none)
    (z16 : PySem.W.nsIn K mainGlobals "zip" = some none)
    (z17 : PySem.W.nsIn K mainGlobals "bool" = some none)
    (gl0 : PySem.W.nsIn K mainGlobals "MANY_BEHIND" = some (some (.int 2 tk0)))
    (gl1 : PySem.W.nsIn K mainGlobals "MOST_OF_ONE" = some (some (.int 4 tk1)))
    : ∃ fd : FuncData, (∀ (s : Shared) (v : Value), BindsTo s fd ⟨[v], []⟩ [("script", v)]) ∧ ∀ base : Heap, K.In base → base.Ns mainGlobals mg → FnOk q w K mg base (L2.CX q w) 8 fa fd ["script"] (spF (gx q w K) (callN P 8 lawN) 1) := by
  have e := hfa.symm.trans (PySem.W.mg_of X G a13)
  cases e
  have F0 := fun_mk (st := rw0) l0 c0 k0
  have I0 : DefIn K mg dt0 _ _ := ⟨PySem.W.mg_of X G a0, F0, F0.binds fun _ _ _ _ _ _ us hl => match us, hl with | [_, _, _], _ => rfl⟩
  have F1 := fun_mk (st := rw1) l1 c1 k1
  have I1 : DefIn K mg dt1 _ _ := ⟨PySem.W.mg_of X G a1, F1, F1.binds fun _ _ _ _ _ _ us hl => match us, hl with | [_, _], _ => rfl⟩
  have F2 := fun_mk (st := rw2) l2 c2 k2
  have I2 : DefIn K mg dt2 _ _ := ⟨PySem.W.mg_of X G a2, F2, F2.binds fun _ _ _ _ _ _ us hl => match us, hl with | [_], _ => rfl⟩
  have F3 := fun_mk (st := rw3) l3 c3 k3
  have I3 : DefIn K mg dt3 _ _ := ⟨PySem.W.mg_of X G a3, F3, F3.binds fun _ _ _ _ _ _ us hl => match us, hl with | [], _ => rfl⟩
  have F4 := fun_mk (st := rw4) l4 c4 k4
  have I4 : DefIn K mg dt4 _ _ := ⟨PySem.W.mg_of X G a4, F4, F4.binds fun _ _ _ _ _ _ us hl => match us, hl with | [_, _], _ => rfl⟩
  have F5 := fun_mk (st := rw5) l5 c5 k5
  have I5 : DefIn K mg dt5 _ _ := ⟨PySem.W.mg_of X G a5, F5, F5.binds fun _ _ _ _ _ _ us hl => match us, hl with | [_], _ => rfl⟩
  have F6 := fun_mk (st := rw6) l6 c6 k6
  have I6 : DefIn K mg dt6 _ _ := ⟨PySem.W.mg_of X G a6, F6, F6.binds fun _ _ _ _ _ _ us hl => match us, hl with | [], _ => rfl⟩
  have F7 := fun_mk (st := rw7) l7 c7 k7
  have I7 : DefIn K mg dt7 _ _ := ⟨PySem.W.mg_of X G a7, F7, F7.binds fun _ _ _ _ _ _ us hl => match us, hl with | [_], _ => rfl⟩
  have F8 := fun_mk (st := rw8) l8 c8 k8
  have I8 : DefIn K mg dt8 _ _ := ⟨PySem.W.mg_of X G a8, F8, F8.binds fun _ _ _ _ _ _ us hl => match us, hl with | [_, _], _ => rfl⟩
  have F9 := fun_mk (st := rw9) l9 c9 k9
  have I9 : DefIn K mg dt9 _ _ := ⟨PySem.W.mg_of X G a9, F9, F9.binds fun _ _ _ _ _ _ us hl => match us, hl with | [_, _], _ => rfl⟩
  have F10 := fun_mk (st := rw10) l10 c10 k10
  have I10 : DefIn K mg dt10 _ _ := ⟨PySem.W.mg_of X G a10, F10, F10.binds fun _ _ _ _ _ _ us hl => match us, hl with | [_, _], _ => rfl⟩
  have F11 := fun_mk (st := rw11) l11 c11 k11
  have I11 : DefIn K mg dt11 _ _ := ⟨PySem.W.mg_of X G a11, F11, F11.binds fun _ _ _ _ _ _ us hl => match us, hl with | [_], _ => rfl⟩
  have F12 := fun_mk (st := rw12) l12 c12 k12
  have I12 : DefIn K mg dt12 _ _ := ⟨PySem.W.mg_of X G a12, F12, F12.binds fun _ _ _ _ _ _ us hl => match us, hl with | [], _ => rfl⟩
  have F13 := fun_mk (st := rw13) l13 c13 k13
  have I13 : DefIn K mg dt13 _ _ := ⟨PySem.W.mg_of X G a13, F13, F13.binds fun _ _ _ _ _ _ us hl => match us, hl with | [_], _ => rfl⟩
  have T : TxtOk q w K mg (gx q w K) P defs gls := by
    refine ⟨rfl, rfl, rfl, rfl, fun cc => by cases cc <;> rfl, fun cc => by cases cc <;> rfl, rfl, fun p hp => ?_, fun x hx => ?_, fun d hd => ?_⟩
    · simp only [gls, List.mem_cons, List.not_mem_nil, or_false] at hp
      rcases hp with rfl | rfl
      · exact ⟨rfl, _, PySem.W.mg_of X G gl0, ⟨_, rfl⟩⟩
      · exact ⟨rfl, _, PySem.W.mg_of X G gl1, ⟨_, rfl⟩⟩
    · simp only [btNames, List.mem_cons, List.not_mem_nil, or_false] at hx
      rcases hx with rfl | rfl | rfl | rfl | rfl | rfl | rfl | rfl | rfl | rfl | rfl | rfl | rfl | rfl | rfl | rfl | rfl | rfl
      · exact PySem.W.mg_none_of X G z0
      · exact PySem.W.mg_none_of X G z1
      · exact PySem.W.mg_none_of X G z2
      · exact PySem.W.mg_none_of X G z3
      · exact PySem.W.mg_none_of X G z4
      · exact PySem.W.mg_none_of X G z5
      · exact PySem.W.mg_none_of X G z6
      · exact PySem.W.mg_none_of X G z7
      · exact PySem.W.mg_none_of X G z8
      · exact PySem.W.mg_none_of X G z9
      · exact PySem.W.mg_none_of X G z10
      · exact PySem.W.mg_none_of X G z11
      · exact PySem.W.mg_none_of X G z12
      · exact PySem.W.mg_none_of X G z13
      · exact PySem.W.mg_none_of X G z14
      · exact PySem.W.mg_none_of X G z15
      · exact PySem.W.mg_none_of X G z16
      · exact PySem.W.mg_none_of X G z17
    · simp only [defs, List.mem_cons, List.not_mem_nil, or_false] at hd
      rcases hd with rfl | rfl | rfl | rfl | rfl | rfl | rfl | rfl | rfl | rfl | rfl | rfl | rfl | rfl
      · exact ⟨ok_dt0, _, _, I0⟩
      · exact ⟨ok_dt1, _, _, I1⟩
      · exact ⟨ok_dt2, _, _, I2⟩
      · exact ⟨ok_dt3, _, _, I3⟩
      · exact ⟨ok_dt4, _, _, I4⟩
      · exact ⟨ok_dt5, _, _, I5⟩
      · exact ⟨ok_dt6, _, _, I6⟩
      · exact ⟨ok_dt7, _, _, I7⟩
      · exact ⟨ok_dt8, _, _, I8⟩
      · exact ⟨ok_dt9, _, _, I9⟩
      · exact ⟨ok_dt10, _, _, I10⟩
      · exact ⟨ok_dt11, _, _, I11⟩
      · exact ⟨ok_dt12, _, _, I12⟩
      · exact ⟨ok_dt13, _, _, I13⟩
  exact ⟨_, fun s v => .of_eq rfl, fun base _ _ => fns_ok (base := base) T 8 dt13 (by simp [defs]) _ _ I13⟩
theorem sp_law {q : Program} {w : World} {K : PySem.W.Frag} (H : Hp) (a : Addr) (ns : List Int) (hl : ns.length ≤ 63) (h : SqL K H a (ns.map V.int)) : spF (gx q w K) (callN P 8 lawN) 1 [.ref a] H (fun v _ => v = .bl true) fun _ _ _ => False := by
  refine ⟨rfl, H, [], [], [.scr ns], ⟨fun _ _ e => e, rfl, List.nodup_nil, fun n p d e => by simp at e⟩, RepL.cons (by simp only [Rep]; exact ⟨a, rfl, h⟩) RepL.nil, ?_⟩
  rw [law_true ns hl]
  intro b G' H' α' _ _ r
  simpa only [VlR, Rep] using r
theorem cx_no {q : Program} {w : World} {H : Hp} {s s' : Shared} {e : Value} (h : L2.CX q w [] H s (fun _ _ _ => False) e s') : False := by
  obtain ⟨_, _, _, _, _, _, _, _, _, _, _, _, z⟩ := h
  exact z
theorem walk {l : PySem.W.OpenLaw} {q : Program} {loose : List Str} {XP : (Str → Option Value) → Heap → Prop} {YP : World → Heap → Prop} {d : DefRec} {K : Params → PySem.W.Frag} (hn : l.most = some 63) (hdf : d.params.defaults = []) (hY : ∀ (w : World) (h : Heap), YP w h → (K w.params).In h)
    (F : ∀ (w : World) (mg : Str → Option Value) (fa : Addr) (h : Heap), (K w.params).In h → h.Ns mainGlobals mg → mg d.name = some (.ref fa) →
      ∃ fd : FuncData, (∀ (s : Shared) (u : Value), BindsTo s fd ⟨[u], []⟩ [("script", u)]) ∧ ∀ base : Heap, (K w.params).In base → base.Ns mainGlobals mg → FnOk l.prog w (K w.params) mg base (L2.CX l.prog w) 8 fa fd ["script"] (spF (gx l.prog w (K w.params)) (callN P 8 lawN) 1)) :
    PySem.W.WalkO q loose XP YP l.row.toRowW d [] (fun f vs => PySem.call f vs) :=
  L2.walk_of (n := 63) (k := 8) (x := "script") (CX := fun w => L2.CX l.prog w) (sp := fun w => spF (gx l.prog w (K w.params)) (callN P 8 lawN) 1) hn (by decide) hdf ⟨rfl, by decide, by decide⟩ hY F (fun w H a ns hl _ hS => sp_law H a ns hl hS) fun w H s e s' z => cx_no z
end MW
open PySem PySem.W PyProof.Rows
set_option maxRecDepth 100000 in
set_option maxHeartbeats 0 in
theorem PySem.Challenge.cw_meldwaits_k30_whole_machine_holds : PySem.Challenge.rw_meldwaits_k30_whole_machine.Holds := by
  w_on; o_law; k_head; (case hw => w_witness2)
  k_fill
  refine MW.walk (l := PySem.Challenge.rw_meldwaits_k30_whole_machine) rfl rfl (fun w h Y => PySem.W.kIn_of Y) ?F
  case F =>
    intro w mg fa h KX G hmg
    refine' MW.all_mk KX G hmg ?a0 ?l0 ?c0 ?k0 ?a1 ?l1 ?c1 ?k1 ?a2 ?l2 ?c2 ?k2 ?a3 ?l3 ?c3 ?k3 ?a4 ?l4 ?c4 ?k4 ?a5 ?l5 ?c5 ?k5 ?a6 ?l6 ?c6 ?k6 ?a7 ?l7 ?c7 ?k7 ?a8 ?l8 ?c8 ?k8 ?a9 ?l9 ?c9 ?k9 ?a10 ?l10 ?c10 ?k10 ?a11 ?l11 ?c11 ?k11 ?a12 ?l12 ?c12 ?k12 ?a13 ?l13 ?c13 ?k13 ?z0 ?z1 ?z2 ?z3 ?z4 ?z5 ?z6 ?z7 ?z8 ?z9 ?z10 ?z11 ?z12 ?z13 ?z14 ?z15 ?z16 ?z17 ?gl0 ?gl1
    (case a0 => k_is)
    (case l0 => k_is)
    (case c0 => k_is)
    (case k0 => k_is)
    (case a1 => k_is)
    (case l1 => k_is)
    (case c1 => k_is)
    (case k1 => k_is)
    (case a2 => k_is)
    (case l2 => k_is)
    (case c2 => k_is)
    (case k2 => k_is)
    (case a3 => k_is)
    (case l3 => k_is)
    (case c3 => k_is)
    (case k3 => k_is)
    (case a4 => k_is)
    (case l4 => k_is)
    (case c4 => k_is)
    (case k4 => k_is)
    (case a5 => k_is)
    (case l5 => k_is)
    (case c5 => k_is)
    (case k5 => k_is)
    (case a6 => k_is)
    (case l6 => k_is)
    (case c6 => k_is)
    (case k6 => k_is)
    (case a7 => k_is)
    (case l7 => k_is)
    (case c7 => k_is)
    (case k7 => k_is)
    (case a8 => k_is)
    (case l8 => k_is)
    (case c8 => k_is)
    (case k8 => k_is)
    (case a9 => k_is)
    (case l9 => k_is)
    (case c9 => k_is)
    (case k9 => k_is)
    (case a10 => k_is)
    (case l10 => k_is)
    (case c10 => k_is)
    (case k10 => k_is)
    (case a11 => k_is)
    (case l11 => k_is)
    (case c11 => k_is)
    (case k11 => k_is)
    (case a12 => k_is)
    (case l12 => k_is)
    (case c12 => k_is)
    (case k12 => k_is)
    (case a13 => k_is)
    (case l13 => k_is)
    (case c13 => k_is)
    (case k13 => k_is)
    (case z0 => k_is)
    (case z1 => k_is)
    (case z2 => k_is)
    (case z3 => k_is)
    (case z4 => k_is)
    (case z5 => k_is)
    (case z6 => k_is)
    (case z7 => k_is)
    (case z8 => k_is)
    (case z9 => k_is)
    (case z10 => k_is)
    (case z11 => k_is)
    (case z12 => k_is)
    (case z13 => k_is)
    (case z14 => k_is)
    (case z15 => k_is)
    (case z16 => k_is)
    (case z17 => k_is)
    (case gl0 => k_is)
    (case gl1 => k_is)
