import PyProof.Rows.All
import Wide.All
import OpenK.AllK
import Wide.FinOn
import PySem.Str
import HandS.ForMost
import HandS.Deep
import HandS.Iter
import HandS.Lambda
import HandS.TupAny
import PyProof.Rows.InDataRows
import PyProof.Rows.IntBool
import KE.SortData
import KE.DataCmp
import PyProof.StrBlock2
import HandS.Style
import HandS.More
import HandS.Conv
import KE.KDictSum
import HandS.IsInst
import PyProof.Rows.StrTemp
import HandS.Set
import HandS.SetFor
import HandS.Flow
import HandS.Exc
import HandS.ExcOwn
import HandS.CallLocal
import HandS.WordsExc
import HandS.CallSlots
import HandS.Comp
import KE.KUnpack
import HandS.Small
import HandS.DictComp
import HandS.Zip
import HandS.Sort
import HandS.ListItems
import KE.KUnpackStar
import OpenK.KWalk
import PyProof.InstEq
import HandS.Codes
import HandS.Defaults
import KE.SortKeyHeap
import KE.KSortKey
import HandS.TryMany
import HandS.ExcInit
import HandS.ExcField
import HandS.ExcIs
import HandS.ClsMeth
import KE.KExcIs
import HandS.Head0
import HandS.Head1
import HandS.Head2
import HandS.HeadEnd
import HandS.HeadHook1
import HandS.HeadHook2
import HandS.HeadHook4
import HandS.EndTab
import PySem.Challenge.RW_oathmoot_k07_networks_refused
set_option autoImplicit false
set_option Elab.async false
set_option linter.all false
set_option maxRecDepth 100000
namespace OM
open PySem (Str)
/-- data: what never changes (tuples; lists, dicts, objects that nobody changes any more), and places of what may change -/
inductive D where
  | non | bl (b : Bool) | int (i : Int) | str (x : Str)
  | tup (xs : List D) | lst (xs : List D)
  | dct (ks : List Str) (vs : List D) | obj (c : Str) (fn : List Str) (fv : List D)
  | ref (n : Nat) | fn (f : Nat)
  | scr (ns : List Int)
  deriving Inhabited
mutual
/-- == of data -/
def peq : D → D → Bool
  | .non, .non => true
  | .bl a, .bl b => a == b
  | .bl a, .int j => (if a then 1 else 0) == j
  | .int i, .bl b => i == (if b then 1 else 0)
  | .int i, .int j => i == j
  | .str x, .str y => x == y
  | .tup xs, .tup ys => peqL xs ys
  | .lst xs, .lst ys => peqL xs ys
  | _, _ => false
def peqL : List D → List D → Bool
  | [], [] => true
  | x :: xs, y :: ys => peq x y && peqL xs ys
  | _, _ => false
end
mutual
/-- data without places: None, bools, ints, texts, tuples and lists of these -/
def plain : D → Bool
  | .non | .bl _ | .int _ | .str _ => true
  | .tup xs => plainL xs
  | .lst xs => plainL xs
  | _ => false
def plainL : List D → Bool
  | [] => true
  | x :: xs => plain x && plainL xs
end
mutual
def dep : D → Nat
  | .tup xs => depL xs + 1
  | .lst xs => depL xs + 1
  | _ => 0
def depL : List D → Nat
  | [] => 0
  | x :: xs => max (dep x) (depL xs)
end
/-- what may change -/
inductive Ob where
  | lst (xs : List D)
  | dct (ks : List Str) (vs : List D)
  | obj (c : Str) (fn : List Str) (fv : List D)
structure Store where
  next : Nat
  get : Nat → Option Ob
def Store.put (st : Store) (n : Nat) (o : Option Ob) : Store := { st with get := fun m => if m = n then o else st.get m }
def Store.new (st : Store) (o : Ob) : Store := { next := st.next + 1, get := fun m => if m = st.next then some o else st.get m }
def st0 : Store := ⟨0, fun _ => none⟩
mutual
/-- no place stands in it -/
def nr : D → Bool
  | .ref _ => false
  | .tup xs => nrL xs
  | .lst xs => nrL xs
  | .dct _ vs => nrL vs
  | .obj _ _ fv => nrL fv
  | _ => true
def nrL : List D → Bool
  | [] => true
  | x :: xs => nr x && nrL xs
end
/-- what stands at a name -/
def lookK : List Str → List D → Str → Option D
  | k :: ks, v :: vs, x => if k = x then some v else lookK ks vs x
  | _, _, _ => none
/-- a name's new value: in its place, or behind the others -/
def putV (ks : List Str) (vs : List D) (x : Str) (d : D) : List D := if x ∈ ks then List.zipWith (fun k v => if k = x then d else v) ks vs else vs ++ [d]
def putN (ks : List Str) (x : Str) : List Str := if x ∈ ks then ks else ks ++ [x]
/-- an exception: its class, its fields -/
structure Xc where
  cls : Str
  fn : List Str
  fv : List D
inductive Out (α : Type) where
  | ok (a : α) (st : Store)
  | exc (x : Xc) (st : Store)
/-- a run: none where the interpreter does not follow -/
abbrev Res (α : Type) := Option (Out α)
def ok {α : Type} (a : α) (st : Store) : Res α := some (.ok a st)
def Res.bind {α β : Type} (m : Res α) (f : α → Store → Res β) : Res β :=
  match m with
  | none => none
  | some (.ok a st) => f a st
  | some (.exc x st) => some (.exc x st)
/-- a partial value -/
def lift {α : Type} (o : Option α) (st : Store) : Res α :=
  match o with
  | none => none
  | some a => ok a st
abbrev Fr := List (Option D)
abbrev Calls := Nat → List D → Store → Res D
/-- a value, looked through a place of a list whose items are data -/
def look (st : Store) : D → Option D
  | .ref n => match st.get n with
    | some (.lst xs) => if plainL xs then some (.lst xs) else none
    | _ => none
  | d => if plain d then some d else none
/-- the items of a list or tuple -/
def seqOf (st : Store) : D → Option (List D)
  | .tup xs => some xs
  | .lst xs => some xs
  | .ref n => match st.get n with
    | some (.lst xs) => some xs
    | _ => none
  | _ => none
def listOf (st : Store) : D → Option (List D)
  | .lst xs => some xs
  | .ref n => match st.get n with
    | some (.lst xs) => some xs
    | _ => none
  | _ => none
def truth (st : Store) : D → Option Bool
  | .non => some false
  | .bl b => some b
  | .int i => some (i != 0)
  | .str x => some (x.length != 0)
  | .tup xs => some (!xs.isEmpty)
  | .lst xs => some (!xs.isEmpty)
  | .ref n => match st.get n with
    | some (.lst xs) => some (!xs.isEmpty)
    | _ => none
  | _ => none
/-- the most that a list or text may hold -/
def line : Nat := 16777216
/-- places in a sequence of n, as Python counts -/
def ixN (n : Nat) (i : Int) : Option Nat := if 0 ≤ i then (if i < n then some i.toNat else none) else (if -(n : Int) ≤ i then some (i + n).toNat else none)
def sIx (n d : Nat) : Option Int → Nat
  | none => d
  | some v => if v < 0 then (v + (n : Int)).toNat else min v.toNat n
def cut {α : Type} (xs : List α) (lo hi : Option Int) : List α := (xs.drop (sIx xs.length 0 lo)).take (sIx xs.length xs.length hi - sIx xs.length 0 lo)
def cutT (z : Str) (lo hi : Option Int) : Str := ⟨(cut z.cps.toList lo hi).toArray⟩
inductive BO where | add | sub | mul | div | mod | pow
inductive CO where | eq | ne | lt | le | gt | ge | in_ | notin | is_ | isnot
def binop (st : Store) : BO → D → D → Option D
  | .add, .int i, .int j => some (.int (i + j))
  | .add, .bl a, .int j => some (.int ((if a = true then (1 : Int) else 0) + j))
  | .add, .str x, .str y => if x.length + y.length ≤ line then some (.str (x ++ y)) else none
  | .add, .tup xs, .tup ys => if xs.length + ys.length ≤ line then some (.tup (xs ++ ys)) else none
  | .add, a, b => match listOf st a, listOf st b with
    | some xs, some ys => if xs.length + ys.length ≤ line then some (.lst (xs ++ ys)) else none
    | _, _ => none
  | .sub, .int i, .int j => some (.int (i - j))
  | .sub, .int i, .bl b => some (.int (i - if b = true then (1 : Int) else 0))
  | .mul, .int i, .int j => if i.natAbs < 2 ^ 64 ∨ j.natAbs < 2 ^ 64 then some (.int (i * j)) else none
  | .mul, .str x, .int j => if 2 ≤ j ∧ j ≤ 4096 ∧ 1 ≤ x.length ∧ x.length * j.toNat ≤ 4096 then some (.str ⟨((List.replicate j.toNat x.cps.toList).flatten).toArray⟩) else none
  | .mul, a, .int j => match listOf st a with
    | some xs => if 0 ≤ j ∧ xs.length * j.toNat ≤ 4096 ∧ j ≤ 4096 then some (.lst ((List.replicate j.toNat xs).flatten)) else none
    | none => none
  | .div, .int i, .int j => if 0 < j ∧ j < 1073741824 then some (.int (i / j)) else none
  | .mod, .int i, .int j => if 0 < j then some (.int (i % j)) else none
  | .pow, .int i, .int j => if 0 ≤ j ∧ j ≤ 1000 ∧ i.natAbs < 2 ^ 64 then some (.int (i ^ j.toNat)) else none
  | _, _, _ => none
/-- a == b; none where it is not followed -/
def eqD (st : Store) (a b : D) : Option Bool :=
  match look st a, look st b with
  | some x, some y => if dep x ≤ 64 ∧ dep y ≤ 64 then some (peq x y) else none
  | _, _ => none
/-- a in b -/
def inD (st : Store) (a b : D) : Option Bool :=
  match b with
  | .str y => match a with
    | .str x => match x.cps.toList with
      | [c] => some (decide (c ∈ y.cps.toList))
      | _ => none
    | _ => none
  | .dct ks _ => match a with
    | .str x => some (decide (x ∈ ks))
    | _ => none
  | .ref n => match st.get n, a with
    | some (.dct ks _), .str x => some (decide (x ∈ ks))
    | _, _ => match look st a, look st b with
      | some x, some (.lst ys) => if dep x ≤ 64 ∧ depL ys < 64 then some (ys.any fun z => peq z x) else none
      | _, _ => none
  | _ => match look st a, look st b with
    | some x, some (.lst ys) => if dep x ≤ 64 ∧ depL ys < 64 then some (ys.any fun z => peq z x) else none
    | some x, some (.tup ys) => if dep x ≤ 64 ∧ depL ys < 64 then some (ys.any fun z => peq z x) else none
    | _, _ => none
mutual
/-- data of one shape, that < may be asked of -/
def alk : D → D → Bool
  | .non, .non => true
  | .bl _, .bl _ => true
  | .int _, .int _ => true
  | .str _, .str _ => true
  | .lst xs, .lst ys => alkL xs ys
  | .tup xs, .tup ys => alkL xs ys
  | _, _ => false
def alkL : List D → List D → Bool
  | x :: xs, y :: ys => alk x y && alkL xs ys
  | _, _ => true
end
mutual
/-- a < b of alike data -/
def dlt : D → D → Bool
  | .bl a, .bl b => !a && b
  | .int i, .int j => decide (i < j)
  | .str x, .str y => decide (x.cps.toList < y.cps.toList)
  | .lst xs, .lst ys => dltL xs ys
  | .tup xs, .tup ys => dltL xs ys
  | _, _ => false
def dltL : List D → List D → Bool
  | x :: xs, y :: ys => if peq x y then dltL xs ys else dlt x y
  | [], _ :: _ => true
  | _, [] => false
end
def isNonB : D → Bool
  | .non => true
  | _ => false
/-- a < b and its like, of alike data -/
def ordD (st : Store) (k : D → D → Bool) (a b : D) : Option D :=
  match look st a, look st b with
  | some x, some y => if alk x y ∧ isNonB x = false ∧ dep x ≤ 32 then some (.bl (k x y)) else none
  | _, _ => none
def cmpop (st : Store) : CO → D → D → Option D
  | .eq, a, b => (eqD st a b).map .bl
  | .ne, a, b => (eqD st a b).map fun k => .bl (!k)
  | .lt, .int i, .int j => some (.bl (decide (i < j)))
  | .le, .int i, .int j => some (.bl (decide (i ≤ j)))
  | .gt, .int i, .int j => some (.bl (decide (j < i)))
  | .ge, .int i, .int j => some (.bl (decide (j ≤ i)))
  | .in_, a, b => (inD st a b).map .bl
  | .notin, a, b => (inD st a b).map fun k => .bl (!k)
  | .lt, a, b => ordD st (fun x y => dlt x y) a b
  | .le, a, b => ordD st (fun x y => !dlt y x) a b
  | .gt, a, b => ordD st (fun x y => dlt y x) a b
  | .ge, a, b => ordD st (fun x y => !dlt x y) a b
  | .is_, .bl a, .bl b => some (.bl (decide (a = b)))
  | .isnot, .bl a, .bl b => some (.bl (!decide (a = b)))
  | _, _, _ => none
/-- a class to be asked of -/
inductive Ty where | int | bool | str | tuple | list | none
  deriving DecidableEq
def Ty.ofNone : Ty → Bool
  | .none => true
  | _ => false
def Ty.ofBool : Ty → Bool
  | .int => true
  | .bool => true
  | _ => false
def Ty.ofInt : Ty → Bool
  | .int => true
  | _ => false
def Ty.ofStr : Ty → Bool
  | .str => true
  | _ => false
def Ty.ofTup : Ty → Bool
  | .tuple => true
  | _ => false
def Ty.ofLst : Ty → Bool
  | .list => true
  | _ => false
def isTy (st : Store) (d : D) (t : Ty) : Option Bool :=
  match d with
  | .non => some t.ofNone
  | .bl _ => some t.ofBool
  | .int _ => some t.ofInt
  | .str _ => some t.ofStr
  | .tup _ => some t.ofTup
  | .lst _ => some t.ofLst
  | .ref n => match st.get n with
    | some (.lst _) => some t.ofLst
    | _ => none
  | _ => none
def isTys (st : Store) (d : D) : List Ty → Option Bool
  | [] => some false
  | t :: ts => match isTy st d t with
    | none => none
    | some true => some true
    | some false => isTys st d ts
/-- all items bools -/
def boolsOf : List D → Option (List Bool)
  | [] => some []
  | .bl b :: r => (boolsOf r).map (b :: ·)
  | _ :: _ => none
def intsOf : List D → Option (List Int)
  | [] => some []
  | .int b :: r => (intsOf r).map (b :: ·)
  | _ :: _ => none
def strsOf : List D → Option (List Str)
  | [] => some []
  | .str b :: r => (strsOf r).map (b :: ·)
  | _ :: _ => none
/-- texts by code points -/
def leT (x y : Str) : Bool := decide (x.cps.toList ≤ y.cps.toList)
def dedup : List Str → List Str → List Str
  | acc, [] => acc
  | acc, x :: r => if x ∈ acc then dedup acc r else dedup (acc ++ [x]) r
def sortT (xs : List Str) : List Str := xs.mergeSort leT
def srtB (xs : List D) : Bool := (xs.all fun d => match d with | .tup (_ :: _) => true | _ => false) || xs.all fun d => match d with | .non => false | .tup _ => false | _ => true
/-- sorted(xs) -/
def sortD (xs : List D) : Option (List D) := if plainL xs ∧ (xs.all fun x => xs.all (alk x)) ∧ srtB xs ∧ depL xs ≤ 32 then some (xs.mergeSort fun a b => !dlt b a) else none
/-- a tuple of texts -/
def txtTup : D → Bool
  | .tup xs => xs.all fun d => match d with | .str _ => true | _ => false
  | _ => false
/-- (len(x), x) -/
def szKey : D → D
  | .tup xs => .tup [.int xs.length, .tup xs]
  | d => .tup [.int 0, d]
/-- sorted(xs, key=lambda x: (len(x), x)) of tuples of texts -/
def sortSz (xs : List D) : Option (List D) := if xs.all txtTup then some (xs.mergeSort fun a b => !dlt (szKey b) (szKey a)) else none
/-- a dict: a value, or in the store -/
def dctOf (st : Store) : D → Option (List Str × List D)
  | .dct ks vs => some (ks, vs)
  | .ref n => match st.get n with
    | some (.dct ks vs) => some (ks, vs)
    | _ => none
  | _ => none
/-- pairs of a text and a datum -/
def pairsOf : List D → Option (List Str × List D)
  | [] => some ([], [])
  | .tup [.str k, v] :: r => (pairsOf r).map fun p => (k :: p.1, v :: p.2)
  | _ :: _ => none
def fillK : List Str → List D → List Str → List D → List Str × List D
  | ks, vs, k :: ls, v :: us => fillK (putN ks k) (putV ks vs k v) ls us
  | ks, vs, _, _ => (ks, vs)
/-- the built-in functions, by what they are given -/
inductive Bi where
  | dict | len | all | any | tuple | list | sum | int | bool | min2 | max2 | sortset | lenset | sorted | str
def biF (st : Store) : Bi → List D → Option D
  | .dict, [a] => match listOf st a with
    | some xs => match pairsOf xs with
      | some (ks, vs) => if xs.length ≤ 4096 then some (.dct (fillK [] [] ks vs).1 (fillK [] [] ks vs).2) else none
      | none => none
    | none => match a with
      | .dct ks vs => some (.dct ks vs)
      | _ => none
  | .len, [.str x] => some (.int x.length)
  | .len, [.dct ks _] => some (.int ks.length)
  | .len, [a] => (seqOf st a).map fun xs => .int xs.length
  | .all, [a] => match listOf st a with
    | some xs => (boolsOf xs).map fun bs => .bl (bs.all id)
    | none => none
  | .any, [a] => match listOf st a with
    | some xs => (boolsOf xs).map fun bs => .bl (bs.any id)
    | none => none
  | .tuple, [.dct ks _] => some (.tup (ks.map .str))
  | .list, [.dct ks _] => some (.lst (ks.map .str))
  | .tuple, [a] => (seqOf st a).map .tup
  | .list, [a] => (seqOf st a).map .lst
  | .sum, [a] => match listOf st a with
    | some xs => (intsOf xs).map fun ns => .int ns.sum
    | none => none
  | .int, [.int i] => some (.int i)
  | .int, [.bl b] => some (.int (if b then 1 else 0))
  | .str, [.int i] => if i.natAbs.log2 < 1920 ∧ (PySem.Str.ofString (toString i)).cps.all (· < 128) = true ∧ (PySem.Str.ofString (toString i)).length ≤ 1000000 then some (.str (PySem.Str.ofString (toString i))) else none
  | .str, [.bl b] => some (.str (if b then "True" else "False"))
  | .min2, [.int i, .int j] => some (.int (if j < i then j else i))
  | .max2, [.int i, .int j] => some (.int (if j > i then j else i))
  | .sortset, [a] => match seqOf st a with
    | some xs => match strsOf xs with
      | some ss => if ss.length < 64 then some (.lst ((sortT (dedup [] ss)).map .str)) else none
      | none => none
    | none => none
  | .sorted, [a] => match dctOf st a with
    | some (ks, _) => if ks.length < 64 then some (.lst ((sortT ks).map .str)) else none
    | none => match seqOf st a with
      | some xs => if xs.length ≤ line then ((sortD xs).orElse fun _ => if xs.length < 2 then some xs else none).map .lst else none
      | none => none
  | .lenset, [a] => match seqOf st a with
    | some xs => match strsOf xs with
      | some ss => if ss.length < 64 then some (.int (dedup [] ss).length) else none
      | none => none
    | none => none
  | _, _ => none
/-- methods of built-in types -/
inductive Mt where
  | append | extend | insert | pop0 | pop1 | join | upper
def mtF (st : Store) : Mt → D → List D → Option (D × Store)
  | .append, .ref n, [x] => match st.get n with
    | some (.lst xs) => if xs.length < line then some (.non, st.put n (some (.lst (xs ++ [x])))) else none
    | _ => none
  | .extend, .ref n, [a] => match st.get n, seqOf st a with
    | some (.lst xs), some ys => if xs.length + ys.length ≤ line then some (.non, st.put n (some (.lst (xs ++ ys)))) else none
    | _, _ => none
  | .insert, .ref n, [.int i, x] => match st.get n with
    | some (.lst xs) => if 0 ≤ i ∧ i ≤ xs.length ∧ xs.length < line then some (.non, st.put n (some (.lst (xs.take i.toNat ++ x :: xs.drop i.toNat)))) else none
    | _ => none
  | .pop1, .ref n, [.int i] => match st.get n with
    | some (.lst xs) => if 0 ≤ i ∧ i < 2 ^ 62 then match xs[i.toNat]? with
        | some x => some (x, st.put n (some (.lst (xs.eraseIdx i.toNat))))
        | none => none
      else none
    | _ => none
  | .join, .str x, [a] => match seqOf st a with
    | some xs => match strsOf xs with
      | some ss => if ss.length + x.length * ss.length + (ss.map (·.length)).sum ≤ line then some (.str (Str.join x ss), st) else none
      | none => none
    | none => none
  | .upper, .str x, [] => if x.cps.all (· < 128) && decide (x.length ≤ 1000000) then some (.str ⟨x.cps.map fun c => if 97 ≤ c ∧ c ≤ 122 then c - 32 else c⟩, st) else none
  | _, _, _ => none
/-- a method that lists have (the others are of texts) -/
def Mt.ofList : Mt → Bool
  | .append => true | .extend => true | .insert => true | .pop0 => true | .pop1 => true | _ => false
def isLst (st : Store) : D → Bool
  | .ref n => match st.get n with
    | some (.lst _) => true
    | _ => false
  | _ => false
def isTxt : D → Bool
  | .str _ => true
  | _ => false
/-- what may be asked for the method -/
def rcvOk (st : Store) (f : Mt) (x : D) : Bool := if f.ofList then isLst st x else isTxt x
/-- targets: slots, tuples of targets -/
inductive Tg where
  | nm (i : Nat)
  | tp (ts : List Tg)
mutual
def bindT (st : Store) : Tg → D → Fr → Option Fr
  | .nm i, d, φ => some (φ.set i (some d))
  | .tp ts, d, φ => match d with
    | .tup xs => bindTs st ts xs φ
    | .lst xs => bindTs st ts xs φ
    | _ => none
def bindTs (st : Store) : List Tg → List D → Fr → Option Fr
  | [], [], φ => some φ
  | t :: ts, x :: xs, φ => match bindT st t x φ with
    | some φ' => bindTs st ts xs φ'
    | none => none
  | _, _, _ => none
end
mutual
/-- the slots of a target -/
def Tg.slots : Tg → List Nat
  | .nm i => [i]
  | .tp ts => Tg.slotsL ts
def Tg.slotsL : List Tg → List Nat
  | [] => []
  | t :: ts => Tg.slots t ++ Tg.slotsL ts
end
/-- slots forgotten -/
def wipeF (φ : Fr) : List Nat → Fr
  | [] => φ
  | v :: vs => (wipeF φ vs).set v none
/-- no exception may leave -/
def noX {α : Type} : Res α → Res α
  | some (.exc _ _) => none
  | r => r
inductive Ex where
  | var (i : Nat)
  | cst (d : D)
  | neg (a : Ex)
  | not (a : Ex)
  | bin (o : BO) (a b : Ex)
  | cmp (o : CO) (a b : Ex)
  | chain (o p : CO) (a b c : Ex)
  | and (a b : Ex)
  | or (a b : Ex)
  | ite (c a b : Ex)
  | tup (es : List Ex)
  | lst (m : Bool) (es : List Ex)
  | idx (a b : Ex)
  | slc (m : Bool) (a : Ex) (lo hi : Option Ex)
  | isi (a : Ex) (ts : List Ty)
  | bi (m : Bool) (f : Bi) (es : List Ex)
  | mt (f : Mt) (o : Ex) (es : List Ex)
  | call (f : Nat) (es : List Ex)
  | callv (nf i : Nat) (es : List Ex)
  | comp (m : Bool) (t : Tg) (i : Ex) (c : Option Ex) (e : Ex)
  | range (lo hi : Ex)
  | frz (e : Ex)
  | pcall (f : Nat) (es : List Ex)
  | meth (p : Bool) (m : Str) (t : List (Str × Nat)) (o : Ex) (es : List Ex)
  | fld (cs : List Str) (o : Ex) (f : Str)
  | make (p : Bool) (c : Str) (f : Nat) (es : List Ex)
  | dnew
  | dcomp (t : Tg) (i : Ex) (c : Option Ex) (k v : Ex)
  | isnone (neg : Bool) (a : Ex)
  | rev (m : Bool) (a : Ex)
  | zip (a b : Ex)
  | items (a : Ex)
  | values (a : Ex)
  | enum (a : Ex)
  | back (a : Ex)
  | catm (a b : Ex)
  | litems (m : Bool) (a : Ex)
  | repm (a b : Ex)
  | eqo (p neg : Bool) (t : List (Str × Nat)) (a b : Ex)
  | iso (c : Str) (a : Ex)
  | sortsz (m : Bool) (a : Ex)
/-- a list, kept as data or laid in the store -/
def mk (m : Bool) (d : D) (st : Store) : Res D :=
  if m then match d with
    | .lst xs => ok (.ref st.next) (st.new (.lst xs))
    | .dct ks vs => ok (.ref st.next) (st.new (.dct ks vs))
    | _ => none
  else ok d st
/-- the items of a list that is data, of a tuple, of a text -/
def itemsOf : D → Option (List D)
  | .tup xs => some xs
  | .lst xs => some xs
  | .str z => some (z.cps.toList.map fun c => .str ⟨#[c]⟩)
  | .scr ns => some (ns.map .int)
  | .dct ks _ => some (ks.map .str)
  | _ => none
/-- .. or of a list in the store -/
def itemsS (st : Store) : D → Option (List D)
  | .ref n => match st.get n with
    | some (.lst xs) => some xs
    | _ => none
  | d => itemsOf d
/-- what is walked is as it was -/
def Same (d : D) (xs : List D) (st : Store) : Prop := match d with
  | .ref n => st.get n = some (.lst xs)
  | _ => True
noncomputable instance Same.dec (d : D) (xs : List D) (st : Store) : Decidable (Same d xs st) := Classical.propDecidable _
/-- an instance: its class, its fields -/
def objOf (st : Store) : D → Option (Str × List Str × List D)
  | .obj c fn fv => some (c, fn, fv)
  | .ref n => match st.get n with
    | some (.obj c fn fv) => some (c, fn, fv)
    | _ => none
  | _ => none
/-- a run over an empty store: nothing else changes -/
def pureC (F : List D → Store → Res D) (ds : List D) (st : Store) : Res D :=
  if nrL ds then match F ds st0 with
    | some (.ok d _) => if nr d then ok d st else none
    | some (.exc x _) => if nrL x.fv then some (.exc x st) else none
    | none => none
  else none
/-- a new instance: its fields are laid by f -/
def makeC (F : List D → Store → Res D) (c : Str) (ds : List D) (st : Store) : Res D :=
  (F (.ref st.next :: ds) (st.new (.obj c [] []))).bind fun d st' => match d with
    | .non => ok (.ref st.next) st'
    | _ => none
/-- .. that nobody will change -/
def makeP (F : List D → Store → Res D) (c : Str) (ds : List D) (st : Store) : Res D :=
  (makeC F c ds st).bind fun _ st' => match st'.get st.next with
    | some (.obj c fn fv) => ok (.obj c fn fv) (st'.put st.next none)
    | _ => none
def callP (p : Bool) (F : List D → Store → Res D) (ds : List D) (st : Store) : Res D := if p then pureC F ds st else F ds st
def makeK (p : Bool) (F : List D → Store → Res D) (c : Str) (ds : List D) (st : Store) : Res D := if p then pureC (makeP F c) ds st else makeC F c ds st
/-- == of None -/
def isNon : D → Option Bool
  | .non => some true
  | .fn _ => none
  | .scr _ => none
  | _ => some false
def idxD (st : Store) (a b : D) : Option D :=
  match b with
  | .str x => match dctOf st a with
    | some (ks, vs) => lookK ks vs x
    | none => none
  | .int i => match a with
    | .str z => if 0 ≤ i then (z.cps.toList[i.toNat]?).map fun c => .str ⟨#[c]⟩ else none
    | _ => match seqOf st a with
      | some xs => match ixN xs.length i with
        | some j => xs[j]?
        | none => none
      | none => none
  | _ => none
def slcD (st : Store) (a : D) (lo hi : Option Int) : Option D :=
  match a with
  | .str z => some (.str (cutT z lo hi))
  | .tup xs => some (.tup (cut xs lo hi))
  | _ => match listOf st a with
    | some xs => some (.lst (cut xs lo hi))
    | none => none
/-- the turns of a dict's comprehension -/
def turnsD (body : D → Store → Res (Option (Str × D))) : List D → List Str → List D → Store → Res (List Str × List D)
  | [], ks, vs, st => ok (ks, vs) st
  | x :: xs, ks, vs, st => (body x st).bind fun o st => match o with
    | some (k, v) => turnsD body xs (putN ks k) (putV ks vs k v) st
    | none => turnsD body xs ks vs st
def asKey (d v : D) : Option (Str × D) := match d with
  | .str k => some (k, v)
  | _ => none
/-- the turns of a comprehension -/
def turns (body : D → Store → Res (Option D)) : List D → Store → Res (List D)
  | [], st => ok [] st
  | x :: xs, st => (body x st).bind fun o st => (turns body xs st).bind fun r st => ok (match o with | some d => d :: r | none => r) st
/-- == (or !=) of two instances of a class with its own __eq__ -/
def eqoD (C : Calls) (p neg : Bool) (t : List (Str × Nat)) (x y : D) (st : Store) : Res D :=
  match objOf st x, objOf st y with
  | some (c, _, _), some (c', _, _) => if c = c' then match t.lookup c with
    | some f => (noX (callP p (C f) [x, y] st)).bind fun d st => match d with
      | .bl k => ok (.bl (k != neg)) st
      | _ => none
    | none => none
    else none
  | _, _ => none
mutual
noncomputable def evE (C : Calls) : Ex → Fr → Store → Res D
  | .var i, φ, st => match φ[i]? with
    | some (some d) => ok d st
    | _ => none
  | .cst d, _, st => ok d st
  | .neg a, φ, st => (evE C a φ st).bind fun d st => match d with
    | .int i => ok (.int (-i)) st
    | _ => none
  | .not a, φ, st => (evE C a φ st).bind fun d st => lift ((truth st d).map fun b => .bl (!b)) st
  | .bin o a b, φ, st => (evE C a φ st).bind fun x st => (evE C b φ st).bind fun y st => lift (binop st o x y) st
  | .cmp o a b, φ, st => (evE C a φ st).bind fun x st => (evE C b φ st).bind fun y st => lift (cmpop st o x y) st
  | .chain o p a b c, φ, st => (evE C a φ st).bind fun x st => (evE C b φ st).bind fun y st => (lift (cmpop st o x y) st).bind fun k st =>
      match k with
      | .bl true => (evE C c φ st).bind fun z st => lift (cmpop st p y z) st
      | .bl false => ok (.bl false) st
      | _ => none
  | .and a b, φ, st => (evE C a φ st).bind fun x st => match truth st x with
    | some true => evE C b φ st
    | some false => ok x st
    | none => none
  | .or a b, φ, st => (evE C a φ st).bind fun x st => match truth st x with
    | some true => ok x st
    | some false => evE C b φ st
    | none => none
  | .ite c a b, φ, st => (evE C c φ st).bind fun x st => match truth st x with
    | some true => evE C a φ st
    | some false => evE C b φ st
    | none => none
  | .tup es, φ, st => (evL C es φ st).bind fun ds st => if ds.length ≤ line then ok (.tup ds) st else none
  | .lst m es, φ, st => (evL C es φ st).bind fun ds st => if ds.length ≤ line then mk m (.lst ds) st else none
  | .idx a b, φ, st => (evE C a φ st).bind fun x st => (evE C b φ st).bind fun y st => lift (idxD st x y) st
  | .slc m a lo hi, φ, st => (evE C a φ st).bind fun x st => (evO C lo φ st).bind fun l st => (evO C hi φ st).bind fun h st => (lift (slcD st x l h) st).bind fun d st => mk m d st
  | .isi a ts, φ, st => (evE C a φ st).bind fun x st => lift ((isTys st x ts).map .bl) st
  | .bi m f es, φ, st => (evL C es φ st).bind fun ds st => (lift (biF st f ds) st).bind fun d st => mk m d st
  | .mt f o es, φ, st => (evE C o φ st).bind fun x st => if rcvOk st f x then (evL C es φ st).bind fun ds st => match mtF st f x ds with
      | some (d, st') => ok d st'
      | none => none
    else none
  | .call f es, φ, st => (evL C es φ st).bind fun ds st => C f ds st
  | .callv nf i es, φ, st => match φ[i]? with
    | some (some (.fn f)) => if f < nf then (evL C es φ st).bind fun ds st => C f ds st else none
    | _ => none
  | .comp m t i c e, φ, st => (evE C i φ st).bind fun x st => match itemsOf x with
    | some xs => if xs.length < line then (noX (turns (fun d st => match bindT st t d (wipeF φ t.slots) with
        | some φ' => (evC C c φ' st).bind fun b st => if b then (evE C e φ' st).bind fun y st => ok (some y) st else ok none st
        | none => none) xs st)).bind fun ys st => mk m (.lst ys) st else none
    | none => match itemsS st x with
      | some xs => if xs.length < line then (noX (turns (fun d st => if Same x xs st then (match bindT st t d (wipeF φ t.slots) with
        | some φ' => (evC C c φ' st).bind fun b st => if b then (evE C e φ' st).bind fun y st => ok (some y) st else ok none st
        | none => none) else none) xs st)).bind fun ys st => if Same x xs st then mk m (.lst ys) st else none else none
      | none => none
  | .range lo hi, φ, st => (evE C lo φ st).bind fun x st => (evE C hi φ st).bind fun y st => match x, y with
    | .int i, .int j => if j - i ≤ 1000000 ∧ i.natAbs < 2 ^ 62 ∧ j.natAbs < 2 ^ 62 then ok (.lst ((List.range (j - i).toNat).map fun (k : Nat) => .int (i + (k : Int)))) st else none
    | _, _ => none
  | .frz e, φ, st => (evE C e φ st).bind fun d st => match d with
    | .ref n => match st.get n with
      | some (.lst xs) => ok (.lst xs) (st.put n none)
      | some (.dct ks vs) => ok (.dct ks vs) (st.put n none)
      | some (.obj c fn fv) => ok (.obj c fn fv) (st.put n none)
      | none => none
    | d => ok d st
  | .pcall f es, φ, st => (evL C es φ st).bind fun ds st => pureC (C f) ds st
  | .meth p m t o es, φ, st => (evE C o φ st).bind fun x st => match objOf st x with
    | some (c, fn, _) => if m ∈ fn then none else match t.lookup c with
      | some f => (evL C es φ st).bind fun ds st => callP p (C f) (x :: ds) st
      | none => none
    | none => none
  | .fld cs o f, φ, st => (evE C o φ st).bind fun x st => match objOf st x with
    | some (c, fn, fv) => if c ∈ cs then lift (lookK fn fv f) st else none
    | none => none
  | .make p c f es, φ, st => (evL C es φ st).bind fun ds st => makeK p (C f) c ds st
  | .dnew, _, st => ok (.ref st.next) (st.new (.dct [] []))
  | .dcomp t i c k v, φ, st => (evE C i φ st).bind fun x st => match itemsOf x with
    | some xs => if xs.length < line then (noX (turnsD (fun d st => match bindT st t d (wipeF φ t.slots) with
        | some φ' => (evC C c φ' st).bind fun b st => if b then (evE C k φ' st).bind fun kd st => (evE C v φ' st).bind fun vd st => (lift (asKey kd vd) st).bind fun p st => ok (some p) st else ok none st
        | none => none) xs [] [] st)).bind fun p st => ok (.dct p.1 p.2) st else none
    | none => none
  | .isnone neg a, φ, st => (evE C a φ st).bind fun x st => lift ((isNon x).map fun b => .bl (b != neg)) st
  | .rev m a, φ, st => (evE C a φ st).bind fun x st => match x with
    | .tup xs => mk m (.tup xs.reverse) st
    | x => match listOf st x with
      | some xs => mk m (.lst xs.reverse) st
      | none => none
  | .litems m a, φ, st => (evE C a φ st).bind fun x st => match dctOf st x with
    | some (ks, vs) => mk m (.lst (List.zipWith (fun k v => .tup [.str k, v]) ks vs)) st
    | none => none
  | .zip a b, φ, st => (evE C a φ st).bind fun x st => (evE C b φ st).bind fun y st => match x, y with
    | .lst xs, .lst ys => ok (.lst (List.zipWith (fun u v => .tup [u, v]) xs ys)) st
    | .tup xs, .tup ys => ok (.lst (List.zipWith (fun u v => .tup [u, v]) xs ys)) st
    | _, _ => none
  | .items a, φ, st => (evE C a φ st).bind fun x st => match x with
    | .dct ks vs => ok (.lst (List.zipWith (fun k v => .tup [.str k, v]) ks vs)) st
    | _ => none
  | .values a, φ, st => (evE C a φ st).bind fun x st => match x with
    | .dct _ vs => ok (.lst vs) st
    | _ => none
  | .enum a, φ, st => (evE C a φ st).bind fun x st => match x with
    | .lst xs => ok (.lst (xs.zipIdx.map fun p => .tup [.int p.2, p.1])) st
    | _ => none
  | .back a, φ, st => (evE C a φ st).bind fun x st => match itemsOf x with
    | some xs => ok (.lst xs.reverse) st
    | none => none
  | .catm a b, φ, st => (evE C a φ st).bind fun x st => (evE C b φ st).bind fun y st => match listOf st x, listOf st y with
    | some xs, some ys => if xs.length + ys.length ≤ line then mk true (.lst (xs ++ ys)) st else none
    | _, _ => none
  | .repm a b, φ, st => (evE C a φ st).bind fun x st => (evE C b φ st).bind fun y st => match listOf st x, y with
    | some xs, .int j => if 0 ≤ j ∧ xs.length * j.toNat ≤ 4096 ∧ j ≤ 4096 then mk true (.lst ((List.replicate j.toNat xs).flatten)) st else none
    | _, _ => none
  | .eqo p neg t a b, φ, st => (evE C a φ st).bind fun x st => (evE C b φ st).bind fun y st => eqoD C p neg t x y st
  | .iso c a, φ, st => (evE C a φ st).bind fun x st => match objOf st x with
    | some (c', _, _) => if c' = c then ok (.bl true) st else none
    | none => none
  | .sortsz m a, φ, st => (evE C a φ st).bind fun x st => match listOf st x with
    | some xs => if xs.length ≤ line then (lift ((sortSz xs).map .lst) st).bind fun d st => mk m d st else none
    | none => none
noncomputable def evL (C : Calls) : List Ex → Fr → Store → Res (List D)
  | [], _, st => ok [] st
  | e :: es, φ, st => (evE C e φ st).bind fun d st => (evL C es φ st).bind fun ds st => ok (d :: ds) st
noncomputable def evO (C : Calls) : Option Ex → Fr → Store → Res (Option Int)
  | none, _, st => ok none st
  | some e, φ, st => (evE C e φ st).bind fun d st => match d with
    | .int i => ok (some i) st
    | _ => none
noncomputable def evC (C : Calls) : Option Ex → Fr → Store → Res Bool
  | none, _, st => ok true st
  | some e, φ, st => (evE C e φ st).bind fun d st => lift (truth st d) st
end
/-- behind a statement -/
inductive SO where
  | nx (φ : Fr) (st : Store)
  | ret (d : D) (st : Store)
  | brk (φ : Fr) (st : Store)
  | cnt (φ : Fr) (st : Store)
  | exc (x : Xc) (φ : Fr) (st : Store)
abbrev SR := Option SO
/-- what an except suite says, of the exception that it handles -/
inductive SX where
  | cst (d : D)
  | fld (f : Str)
  | isx (cs : List Str)
  | tup (es : List SX)
  | lst (es : List SX)
  | and (a b : SX)
inductive HS where
  | asg (i : Nat) (e : SX)
  | ret (e : SX)
  | pass
/-- an except clause: the classes that it catches, those that it lets by, the exception's name, its suite -/
structure Hd where
  cs : List Str
  no : List Str
  nm : Option Nat
  b : List HS
inductive Sm where
  | asg (t : Tg) (e : Ex)
  | par (is : List Nat) (es : List Ex)
  | put (o i e : Ex)
  | ex (e : Ex)
  | ite (c : Ex) (a b : List Sm)
  | for (t : Tg) (i : Ex) (b : List Sm)
  | while (c : Ex) (b : List Sm)
  | ret (e : Ex)
  | ret0
  | brk
  | cnt
  | pass
  | frz (i : Nat)
  | never
  | setf (cs : List Str) (o : Ex) (f : Str) (e : Ex)
  | forw (ws : List Nat) (t : Tg) (i : Ex) (b : List Sm)
  | wipe (ws : List Nat)
  | star (is : List Nat) (r : Nat) (e : Ex)
  | raise (c : Str) (fn : List Str) (es : List Ex)
  | tryx (b : List Sm) (hs : List Hd)
mutual
def evX (x : Xc) : SX → Option D
  | .cst d => some d
  | .fld f => lookK x.fn x.fv f
  | .isx cs => some (.bl (decide (x.cls ∈ cs)))
  | .tup es => (evXs x es).map .tup
  | .lst es => (evXs x es).map .lst
  | .and a b => match evX x a with
    | some (.bl true) => evX x b
    | some (.bl false) => some (.bl false)
    | _ => none
def evXs (x : Xc) : List SX → Option (List D)
  | [] => some []
  | e :: es => match evX x e, evXs x es with
    | some d, some ds => some (d :: ds)
    | _, _ => none
end
/-- a suite -/
def evHs (x : Xc) : List HS → Fr → Store → SR
  | [], φ, st => some (.nx φ st)
  | .asg i e :: r, φ, st => match evX x e with
    | some d => evHs x r (φ.set i (some d)) st
    | none => none
  | .ret e :: _, _, st => match evX x e with
    | some d => some (.ret d st)
    | none => none
  | .pass :: r, φ, st => evHs x r φ st
/-- a slot forgotten, if there is one -/
def wipeO (φ : Fr) : Option Nat → Fr
  | none => φ
  | some i => φ.set i none
def slotOk (φ : Fr) : Option Nat → Bool
  | none => true
  | some i => decide (i < φ.length)
/-- the clauses, one after the other -/
def evHd (x : Xc) : List Hd → Fr → Store → SR
  | [], φ, st => some (.exc x φ st)
  | h :: r, φ, st => if x.cls ∈ h.cs then (if slotOk φ h.nm = true then (match evHs x h.b (wipeO φ h.nm) st with
      | some (.nx φ' st') => some (.nx (wipeO φ' h.nm) st')
      | r => r) else none)
    else if x.cls ∈ h.no then evHd x r φ st else none
def SR.caught (m : SR) (f : Xc → Fr → Store → SR) : SR :=
  match m with
  | some (.exc x φ st) => f x φ st
  | r => r
/-- an expression within a statement -/
def Res.toS {α : Type} (m : Res α) (φ : Fr) (f : α → Store → SR) : SR :=
  match m with
  | none => none
  | some (.ok a st) => f a st
  | some (.exc x st) => some (.exc x φ st)
def SR.seq (m : SR) (f : Fr → Store → SR) : SR :=
  match m with
  | some (.nx φ st) => f φ st
  | r => r
/-- the turns of a for -/
def forL (body : D → Fr → Store → SR) : List D → Fr → Store → SR
  | [], φ, st => some (.nx φ st)
  | x :: xs, φ, st => match body x φ st with
    | some (.nx φ' st') => forL body xs φ' st'
    | some (.cnt φ' st') => forL body xs φ' st'
    | some (.brk φ' st') => some (.nx φ' st')
    | r => r
/-- .. some slots forgotten ahead of each turn and behind the last -/
def forW (ws : List Nat) (body : D → Fr → Store → SR) : List D → Fr → Store → SR
  | [], φ, st => some (.nx (wipeF φ ws) st)
  | x :: xs, φ, st => match body x (wipeF φ ws) st with
    | some (.nx φ' st') => forW ws body xs φ' st'
    | some (.cnt φ' st') => forW ws body xs φ' st'
    | some (.brk φ' st') => some (.nx (wipeF φ' ws) st')
    | r => r
/-- .. while g holds -/
noncomputable def forG (g : Store → Prop) [DecidablePred g] (ws : List Nat) (body : D → Fr → Store → SR) : List D → Fr → Store → SR
  | [], φ, st => if g st then some (.nx (wipeF φ ws) st) else none
  | x :: xs, φ, st => if g st then (match body x (wipeF φ ws) st with
    | some (.nx φ' st') => forG g ws body xs φ' st'
    | some (.cnt φ' st') => forG g ws body xs φ' st'
    | some (.brk φ' st') => some (.nx (wipeF φ' ws) st')
    | r => r) else none
/-- the turns of a while, at most so many -/
def whileN (c : Fr → Store → Res Bool) (body : Fr → Store → SR) : Nat → Fr → Store → SR
  | 0, _, _ => none
  | n + 1, φ, st => (c φ st).toS φ fun b st => if b then (match body φ st with
      | some (.nx φ' st') => whileN c body n φ' st'
      | some (.cnt φ' st') => whileN c body n φ' st'
      | some (.brk φ' st') => some (.nx φ' st')
      | r => r) else some (.nx φ st)
def putD (st : Store) (o i d : D) : Option Store :=
  match o, i with
  | .ref n, .int i => match st.get n with
    | some (.lst xs) => match ixN xs.length i with
      | some j => some (st.put n (some (.lst (xs.set j d))))
      | none => none
    | _ => none
  | .ref n, .str x => match st.get n with
    | some (.dct ks vs) => if ks.length < 4096 then some (st.put n (some (.dct (putN ks x) (putV ks vs x d)))) else none
    | _ => none
  | _, _ => none
/-- o.f = d -/
def setfD (st : Store) (cs : List Str) (o : D) (f : Str) (d : D) : Option Store :=
  match o with
  | .ref n => match st.get n with
    | some (.obj c fn fv) => if c ∈ cs ∧ fn.length < 900 then some (st.put n (some (.obj c (putN fn f) (putV fn fv f d)))) else none
    | _ => none
  | _ => none
/-- a, b, *r = xs -/
def starB (st : Store) (is : List Nat) (r : Nat) (d : D) (φ : Fr) : Option Fr :=
  match seqOf st d with
  | some xs => if is.length ≤ xs.length then bindTs st (is.map .nm ++ [.nm r]) (xs.take is.length ++ [.lst (xs.drop is.length)]) φ else none
  | none => none
def setAll : List Nat → List D → Fr → Option Fr
  | [], [], φ => some φ
  | i :: is, d :: ds, φ => setAll is ds (φ.set i (some d))
  | _, _, _ => none
mutual
noncomputable def evS (C : Calls) : Sm → Fr → Store → SR
  | .asg t e, φ, st => (evE C e φ st).toS φ fun d st => match bindT st t d φ with
    | some φ' => some (.nx φ' st)
    | none => none
  | .par is es, φ, st => (evL C es φ st).toS φ fun ds st => match setAll is ds φ with
    | some φ' => some (.nx φ' st)
    | none => none
  | .put o i e, φ, st => (evE C e φ st).toS φ fun d st => (evE C o φ st).toS φ fun od st => (evE C i φ st).toS φ fun id st => match putD st od id d with
    | some st' => some (.nx φ st')
    | none => none
  | .ex e, φ, st => (evE C e φ st).toS φ fun _ st => some (.nx φ st)
  | .ite c a b, φ, st => (evE C c φ st).toS φ fun d st => match truth st d with
    | some true => evSs C a φ st
    | some false => evSs C b φ st
    | none => none
  | .for t i b, φ, st => (evE C i φ st).toS φ fun d st => match itemsOf d with
    | some xs => forL (fun d φ st => match bindT st t d φ with
        | some φ' => evSs C b φ' st
        | none => none) xs φ st
    | none => match itemsS st d with
      | some xs => forG (Same d xs) [] (fun d φ st => match bindT st t d φ with
        | some φ' => evSs C b φ' st
        | none => none) xs φ st
      | none => none
  | .while c b, φ, st => whileN (fun φ st => (evE C c φ st).bind fun d st => lift (truth st d) st) (fun φ st => evSs C b φ st) 1000 φ st
  | .ret e, φ, st => (evE C e φ st).toS φ fun d st => some (.ret d st)
  | .ret0, _, st => some (.ret .non st)
  | .brk, φ, st => some (.brk φ st)
  | .cnt, φ, st => some (.cnt φ st)
  | .pass, φ, st => some (.nx φ st)
  | .frz i, φ, st => match φ[i]? with
    | some (some (.ref n)) => match st.get n with
      | some (.lst xs) => some (.nx (φ.set i (some (.lst xs))) (st.put n none))
      | some (.dct ks vs) => some (.nx (φ.set i (some (.dct ks vs))) (st.put n none))
      | some (.obj c fn fv) => some (.nx (φ.set i (some (.obj c fn fv))) (st.put n none))
      | none => none
    | _ => some (.nx φ st)
  | .never, _, _ => none
  | .setf cs o f e, φ, st => (evE C e φ st).toS φ fun d st => (evE C o φ st).toS φ fun od st => match setfD st cs od f d with
    | some st' => some (.nx φ st')
    | none => none
  | .forw ws t i b, φ, st => (evE C i φ st).toS φ fun d st => match itemsOf d with
    | some xs => forW ws (fun d φ st => match bindT st t d φ with
        | some φ' => evSs C b φ' st
        | none => none) xs φ st
    | none => match itemsS st d with
      | some xs => forG (Same d xs) ws (fun d φ st => match bindT st t d φ with
        | some φ' => evSs C b φ' st
        | none => none) xs φ st
      | none => none
  | .wipe ws, φ, st => some (.nx (wipeF φ ws) st)
  | .star is r e, φ, st => (evE C e φ st).toS φ fun d st => match starB st is r d φ with
    | some φ' => some (.nx φ' st)
    | none => none
  | .raise c fn es, φ, st => (evL C es φ st).toS φ fun ds st => if ds.length = fn.length then some (.exc ⟨c, fn, ds⟩ φ st) else none
  | .tryx b hs, φ, st => (evSs C b φ st).caught fun x φ st => evHd x hs φ st
noncomputable def evSs (C : Calls) : List Sm → Fr → Store → SR
  | [], φ, st => some (.nx φ st)
  | s :: r, φ, st => (evS C s φ st).seq fun φ st => evSs C r φ st
end
/-- a def: its parameters, its slots, its body -/
structure Df where
  np : Nat
  ns : Nat
  body : List Sm
abbrev Defs := List Df
noncomputable def runD (C : Calls) (df : Df) (ds : List D) (st : Store) : Res D :=
  if ds.length = df.np then
    match evSs C df.body (ds.map some ++ List.replicate (df.ns - df.np) none) st with
    | some (.nx _ st') => ok .non st'
    | some (.ret d st') => ok d st'
    | some (.exc x _ st') => some (.exc x st')
    | _ => none
  else none
noncomputable def callN (P : Defs) : Nat → Calls
  | 0 => fun _ _ _ => none
  | n + 1 => fun f ds st => match P[f]? with
    | some df => runD (callN P n) df ds st
    | none => none
end OM
namespace OM
open PySem PySem.Spec L2
/-- the names of the text: the written part, what the module's names hold, where the defs stand -/
structure GX where
  K : PySem.W.Frag
  mg : Str → Option Value
  fns : Nat → Addr
  cl : Str → Addr
  /-- the tables of code objects that may grow, with the name that their code objects bear -/
  tb : List (Addr × Str)
/-- not a table -/
def NT (o : HO) : Prop := ∀ ps, o ≠ .tbl ps
/-- neither a table nor a thing of one's own kind -/
def Pln : HO → Prop
  | .tbl _ => False
  | .ext _ => False
  | _ => True
/-- a place of the store stands at al; the store; the abstract heap -/
structure Wl where
  al : Nat → Addr
  st : Store
  H : Hp
  /-- lists that are being built -/
  B : Addr → Prop
/-- the addresses of what may change -/
def Wl.T (W : Wl) (p : Addr) : Prop := (∃ n o, W.st.get n = some o ∧ W.al n = p) ∨ W.B p
def KT (K : PySem.W.Frag) (a : Addr) (xs : List V) : Prop :=
  ∃ (o : Obj) (its : Array Value) (n : Nat), K.lookup a = some o ∧ o.cls = .type "tuple" ∧ o.data = .seq its n ∧ its.size ≤ sizeLine ∧ Vals xs its.toList
/-- a list, a tuple that nobody changes stands at p -/
def LAt (W : Wl) (p : Addr) (vs : List V) : Prop := W.H p = some (.lst vs) ∧ ¬ W.T p
def TAt (G : GX) (W : Wl) (p : Addr) (vs : List V) : Prop := (Rd W.H p (.tup vs) ∧ ¬ W.T p) ∨ KT G.K p vs
/-- the script -/
def SAt (G : GX) (W : Wl) (p : Addr) (ns : List Int) : Prop := (Rd W.H p (.lst (ns.map V.int)) ∧ ¬ W.T p) ∨
  ∃ (o : Obj) (its : Array Value) (n : Nat), G.K.lookup p = some o ∧ o.cls = .type "list" ∧ o.dict = none ∧ o.data = .seq its n ∧ its.size ≤ sizeLine ∧ Vals (ns.map V.int) its.toList
theorem SAt.sq {G : GX} {W : Wl} {p : Addr} {ns : List Int} (h : SAt G W p ns) : SqL G.K W.H p (ns.map V.int) := by
  rcases h with ⟨h, _⟩ | h
  · exact .inl h
  · exact .inr h
theorem LAt.sq {K : PySem.W.Frag} {W : Wl} {p : Addr} {vs : List V} (h : LAt W p vs) : SqL K W.H p vs := .inl (.inl h.1)
theorem TAt.sq {G : GX} {W : Wl} {p : Addr} {vs : List V} (h : TAt G W p vs) : SqT G.K W.H p vs := by
  rcases h with ⟨h, _⟩ | h
  · exact .inl h
  · exact .inr h
/-- a dict's pairs -/
def zipK (ks : List Str) (vs : List V) : List (Key × V) := (ks.map Sum.inr).zip vs
/-- a dict that nobody changes, known to its object -/
def CAt (W : Wl) (p : Addr) (kvs : List (Key × V)) : Prop := (∃ od, W.H p = some (.frz od (.dK kvs))) ∧ ¬ W.T p
/-- an instance that nobody changes -/
def OAt (G : GX) (W : Wl) (p : Addr) (c : Str) (fs : List (Str × V)) : Prop := (∃ dx, W.H p = some (.ins (G.cl c) dx fs)) ∧ ¬ W.T p
/-- a text that the model can hold -/
def TxtOk (x : Str) : Prop := PySem.PyData.strOk x = true ∧ x.length ≤ sizeLine
mutual
inductive Rel (G : GX) (W : Wl) : D → V → Prop
  | non : Rel G W .non .non
  | bl (b : Bool) : Rel G W (.bl b) (.bl b)
  | int (i : Int) : Rel G W (.int i) (.int i)
  | str (x : Str) (h : TxtOk x) : Rel G W (.str x) (.str x)
  | tup {p : Addr} {ds : List D} {vs : List V} : TAt G W p vs → RelL G W ds vs → Rel G W (.tup ds) (.ref p)
  | lst {p : Addr} {ds : List D} {vs : List V} : LAt W p vs → RelL G W ds vs → Rel G W (.lst ds) (.ref p)
  | ref (n : Nat) (h : n < W.st.next) : Rel G W (.ref n) (.ref (W.al n))
  | fn (f : Nat) : Rel G W (.fn f) (.ref (G.fns f))
  | scr {p : Addr} {ns : List Int} : SAt G W p ns → Rel G W (.scr ns) (.ref p)
  | dct {p : Addr} {ks : List Str} {ds : List D} {vs : List V} : CAt W p (zipK ks vs) → ks.length = ds.length → (∀ k ∈ ks, TxtOk k) → RelL G W ds vs → Rel G W (.dct ks ds) (.ref p)
  | obj {p : Addr} {c : Str} {fn : List Str} {ds : List D} {vs : List V} : OAt G W p c (fn.zip vs) → fn.length = ds.length → RelL G W ds vs → Rel G W (.obj c fn ds) (.ref p)
inductive RelL (G : GX) (W : Wl) : List D → List V → Prop
  | nil : RelL G W [] []
  | cons {d : D} {v : V} {ds : List D} {vs : List V} : Rel G W d v → RelL G W ds vs → RelL G W (d :: ds) (v :: vs)
end
/-- what stands for a thing that may change -/
inductive ORel (G : GX) (W : Wl) : Ob → Addr → Prop
  | lst {p : Addr} {ds : List D} {vs : List V} : W.H p = some (.lst vs) → RelL G W ds vs → ORel G W (.lst ds) p
  | dct {p : Addr} {ks : List Str} {ds : List D} {vs : List V} : W.H p = some (.dK (zipK ks vs)) → ks.length = ds.length → (∀ k ∈ ks, TxtOk k) → RelL G W ds vs → ORel G W (.dct ks ds) p
  | obj {p dx : Addr} {c : Str} {fn : List Str} {ds : List D} {vs : List V} : W.H p = some (.ins (G.cl c) dx (fn.zip vs)) → fn.Nodup → fn.length = ds.length → RelL G W ds vs → ORel G W (.obj c fn ds) p
structure SRel (G : GX) (W : Wl) : Prop where
  lt : ∀ n o, W.st.get n = some o → n < W.st.next
  inj : ∀ n m o o', W.st.get n = some o → W.st.get m = some o' → W.al n = W.al m → n = m
  ob : ∀ n o, W.st.get n = some o → ORel G W o (W.al n)
  bok : ∀ p, W.B p → ∃ o, W.H p = some o ∧ Pln o
  bsep : ∀ n o, W.st.get n = some o → ¬ W.B (W.al n)
  tab : LamX.Tabs G.tb W.H
/-- later: what nobody changes is as it was -/
structure Ext0 (W W' : Wl) : Prop where
  next : W.st.next ≤ W'.st.next
  at_ : ∀ n, n < W.st.next → W'.al n = W.al n
  keep : ∀ p o, W.H p = some o → ¬ W.T p → NT o → W'.H p = some o ∧ ¬ W'.T p
/-- and what is being built is as it was -/
structure Ext (W W' : Wl) : Prop extends Ext0 W W' where
  bld : ∀ p o, W.B p → W.H p = some o → W'.B p ∧ W'.H p = some o
theorem Ext0.refl (W : Wl) : Ext0 W W := ⟨Nat.le_refl _, fun _ _ => rfl, fun _ _ h t _ => ⟨h, t⟩⟩
theorem Ext0.trans {W W1 W2 : Wl} (a : Ext0 W W1) (b : Ext0 W1 W2) : Ext0 W W2 :=
  ⟨Nat.le_trans a.next b.next, fun n h => (b.at_ n (Nat.lt_of_lt_of_le h a.next)).trans (a.at_ n h), fun p o h t n => let ⟨h1, t1⟩ := a.keep p o h t n; b.keep p o h1 t1 n⟩
theorem Ext.refl (W : Wl) : Ext W W := ⟨.refl W, fun _ _ b h => ⟨b, h⟩⟩
theorem Ext.trans {W W1 W2 : Wl} (a : Ext W W1) (b : Ext W1 W2) : Ext W W2 :=
  ⟨a.toExt0.trans b.toExt0, fun p o h t => let ⟨h1, t1⟩ := a.bld p o h t; b.bld p o h1 t1⟩
theorem Rd.ext {W W' : Wl} (e : Ext0 W W') {p : Addr} {u : HO} (n : NT u) (h : Rd W.H p u) (t : ¬ W.T p) : Rd W'.H p u ∧ ¬ W'.T p := by
  rcases h with h | ⟨o, h⟩
  · exact ⟨.inl (e.keep p _ h t n).1, (e.keep p _ h t n).2⟩
  · exact ⟨.inr ⟨o, (e.keep p _ h t nofun).1⟩, (e.keep p _ h t nofun).2⟩
theorem LAt.ext {W W' : Wl} (e : Ext0 W W') {p : Addr} {vs : List V} (h : LAt W p vs) : LAt W' p vs := e.keep p _ h.1 h.2 nofun
theorem TAt.ext {G : GX} {W W' : Wl} (e : Ext0 W W') {p : Addr} {vs : List V} (h : TAt G W p vs) : TAt G W' p vs := by
  rcases h with ⟨h, t⟩ | h
  · exact .inl (Rd.ext e nofun h t)
  · exact .inr h
theorem SAt.ext {G : GX} {W W' : Wl} (e : Ext0 W W') {p : Addr} {ns : List Int} (h : SAt G W p ns) : SAt G W' p ns := by
  rcases h with ⟨h, t⟩ | h
  · exact .inl (Rd.ext e nofun h t)
  · exact .inr h
theorem CAt.ext {W W' : Wl} (e : Ext0 W W') {p : Addr} {kvs : List (Key × V)} (h : CAt W p kvs) : CAt W' p kvs := by
  obtain ⟨⟨od, h⟩, t⟩ := h
  exact ⟨⟨od, (e.keep p _ h t nofun).1⟩, (e.keep p _ h t nofun).2⟩
theorem OAt.ext {G : GX} {W W' : Wl} (e : Ext0 W W') {p : Addr} {c : Str} {fs : List (Str × V)} (h : OAt G W p c fs) : OAt G W' p c fs := by
  obtain ⟨⟨dx, h⟩, t⟩ := h
  exact ⟨⟨dx, (e.keep p _ h t nofun).1⟩, (e.keep p _ h t nofun).2⟩
mutual
theorem Rel.ext0 {G : GX} {W W' : Wl} (e : Ext0 W W') : ∀ {d : D} {v : V}, Rel G W d v → Rel G W' d v
  | _, _, .non => .non
  | _, _, .bl b => .bl b
  | _, _, .int i => .int i
  | _, _, .str x h => .str x h
  | _, _, .tup h r => .tup (h.ext e) (RelL.ext0 e r)
  | _, _, .lst h r => .lst (h.ext e) (RelL.ext0 e r)
  | _, _, .ref n h => by
    have q := Rel.ref (G := G) (W := W') n (Nat.lt_of_lt_of_le h e.next)
    rw [e.at_ n h] at q
    exact q
  | _, _, .fn f => .fn f
  | _, _, .scr h => .scr (h.ext e)
  | _, _, .dct h l k r => .dct (h.ext e) l k (RelL.ext0 e r)
  | _, _, .obj h l r => .obj (h.ext e) l (RelL.ext0 e r)
theorem RelL.ext0 {G : GX} {W W' : Wl} (e : Ext0 W W') : ∀ {ds : List D} {vs : List V}, RelL G W ds vs → RelL G W' ds vs
  | _, _, .nil => .nil
  | _, _, .cons h r => .cons (Rel.ext0 e h) (RelL.ext0 e r)
end
theorem Rel.ext {G : GX} {W W' : Wl} (e : Ext W W') {d : D} {v : V} (r : Rel G W d v) : Rel G W' d v := r.ext0 e.toExt0
theorem RelL.ext {G : GX} {W W' : Wl} (e : Ext W W') {d : List D} {v : List V} (r : RelL G W d v) : RelL G W' d v := r.ext0 e.toExt0
section
variable {G : GX} {W W' : Wl} {ds es : List D} {vs us : List V} {d : D} {v : V}
theorem RelL.length : ∀ {ds : List D} {vs : List V}, RelL G W ds vs → ds.length = vs.length
  | _, _, .nil => rfl
  | _, _, .cons _ r => by simp [RelL.length r]
theorem RelL.append : ∀ {ds es : List D} {vs us : List V}, RelL G W ds vs → RelL G W es us → RelL G W (ds ++ es) (vs ++ us)
  | _, _, _, _, .nil, s => s
  | _, _, _, _, .cons h r, s => .cons h (RelL.append r s)
theorem RelL.get : ∀ {ds : List D} {vs : List V} {i : Nat} {d : D}, RelL G W ds vs → ds[i]? = some d → ∃ v, vs[i]? = some v ∧ Rel G W d v
  | _, _, _, _, .nil, e => by simp at e
  | _, _, 0, d, .cons h _, e => by simp at e; subst e; exact ⟨_, rfl, h⟩
  | _, _, i + 1, d, .cons _ r, e => by
    obtain ⟨v, h1, h2⟩ := RelL.get (i := i) (d := d) r (by simpa using e)
    exact ⟨v, by simpa using h1, h2⟩
theorem RelL.take : ∀ {ds : List D} {vs : List V} (n : Nat), RelL G W ds vs → RelL G W (ds.take n) (vs.take n)
  | _, _, 0, _ => .nil
  | _, _, _ + 1, .nil => .nil
  | _, _, n + 1, .cons h r => .cons h (RelL.take n r)
theorem RelL.drop : ∀ {ds : List D} {vs : List V} (n : Nat), RelL G W ds vs → RelL G W (ds.drop n) (vs.drop n)
  | _, _, 0, r => r
  | _, _, _ + 1, .nil => .nil
  | _, _, n + 1, .cons _ r => RelL.drop n r
theorem RelL.set (h : Rel G W d v) : ∀ {ds : List D} {vs : List V} (i : Nat), RelL G W ds vs → RelL G W (ds.set i d) (vs.set i v)
  | _, _, _, .nil => .nil
  | _, _, 0, .cons _ r => .cons h r
  | _, _, i + 1, .cons q r => .cons q (RelL.set h i r)
theorem RelL.erase : ∀ {ds : List D} {vs : List V} (i : Nat), RelL G W ds vs → RelL G W (ds.eraseIdx i) (vs.eraseIdx i)
  | _, _, _, .nil => .nil
  | _, _, 0, .cons _ r => r
  | _, _, i + 1, .cons q r => .cons q (RelL.erase i r)
theorem RelL.of : ∀ {ds : List D} {vs : List V}, ds.length = vs.length → (∀ (i : Nat) (d : D) (v : V), ds[i]? = some d → vs[i]? = some v → Rel G W d v) → RelL G W ds vs
  | [], [], _, _ => .nil
  | [], _ :: _, h, _ => by simp at h
  | _ :: _, [], h, _ => by simp at h
  | d :: ds, v :: vs, h, k => .cons (k 0 d v rfl rfl) (RelL.of (by simpa using h) fun i d' v' h1 h2 => k (i + 1) d' v' (by simpa using h1) (by simpa using h2))
theorem RelL.flat (k : Nat) (h : RelL G W ds vs) : RelL G W (List.replicate k ds).flatten (List.replicate k vs).flatten := by
  induction k with
  | zero => exact .nil
  | succ k ih => simp only [List.replicate_succ, List.flatten_cons]; exact h.append ih
end
section
variable {G : GX} {W : Wl}
theorem Wl.T.pln (s : SRel G W) {p : Addr} (t : W.T p) : ∃ o, W.H p = some o ∧ Pln o := by
  rcases t with ⟨n, o, e, rfl⟩ | t
  · cases s.ob n o e with
    | lst h _ => exact ⟨_, h, trivial⟩
    | dct h _ _ _ => exact ⟨_, h, trivial⟩
    | obj h _ _ _ => exact ⟨_, h, trivial⟩
  · exact s.bok p t
theorem Wl.T.some (s : SRel G W) {p : Addr} (t : W.T p) : ∃ o, W.H p = some o := let ⟨o, h, _⟩ := t.pln s; ⟨o, h⟩
/-- the tables stay where all that is not plain stays -/
theorem tab_of (s : SRel G W) {H' : Hp} (k : ∀ p o, W.H p = some o → ¬ Pln o → H' p = some o) : LamX.Tabs G.tb H' := fun p hp => by
  obtain ⟨ps, h1, h2, h3⟩ := s.tab p hp
  refine ⟨ps, k _ _ h1 id, h2, fun pos cv hc => ?_⟩
  obtain ⟨c, e1, e2⟩ := h3 pos cv hc
  exact ⟨c, e1, k _ _ e2 id⟩
theorem tab_T (s : SRel G W) {p : Addr} {o : HO} (t : W.T p) : ∀ q u, W.H q = some u → ¬ Pln u → upd W.H p o q = some u := fun q u e n => by
  obtain ⟨v, hv, pv⟩ := t.pln s
  exact (upd_ne fun z => n (by rw [z, hv] at e; cases e; exact pv)).trans e
theorem tab_new {p : Addr} {o : HO} (h : W.H p = none) : ∀ q u, W.H q = some u → ¬ Pln u → upd W.H p o q = some u := fun q u e _ => (upd_ne (ne_of_none e h)).trans e
theorem Wl.notT (s : SRel G W) {p : Addr} (h : W.H p = none) : ¬ W.T p := fun t => by
  obtain ⟨o, e⟩ := t.some s
  rw [h] at e; cases e
/-- a new thing that nobody will change -/
def Wl.lay (W : Wl) (p : Addr) (o : HO) : Wl := { W with H := upd W.H p o }
theorem Wl.lay_ext {p : Addr} {o : HO} (h : W.H p = none) : Ext W (W.lay p o) := by
  have k : ∀ q u, W.H q = some u → (W.lay p o).H q = some u := fun q u e => by
    show upd W.H p o q = some u
    rw [upd_ne (ne_of_none e h)]
    exact e
  exact ⟨⟨Nat.le_refl _, fun _ _ => rfl, fun q u e t _ => ⟨k q u e, t⟩⟩, fun q u b e => ⟨b, k q u e⟩⟩
theorem ORel.ext {W' : Wl} (e : Ext0 W W') {o : Ob} {p : Addr} (r : ORel G W o p) (k : W'.H p = W.H p) : ORel G W' o p := by
  cases r with
  | lst h r => exact .lst (k.trans h) (r.ext0 e)
  | dct h l q r => exact .dct (k.trans h) l q (r.ext0 e)
  | obj h n l r => exact .obj (k.trans h) n l (r.ext0 e)
theorem Wl.lay_s {p : Addr} {o : HO} (s : SRel G W) (h : W.H p = none) : SRel G (W.lay p o) := by
  refine ⟨s.lt, s.inj, fun n u e => (s.ob n u e).ext (W.lay_ext h).toExt0 ?_, fun q b => ?_, s.bsep, tab_of s (tab_new h)⟩
  · show upd W.H p o (W.al n) = _
    exact upd_ne fun z => by
      have t : W.T (W.al n) := .inl ⟨n, u, e, rfl⟩
      exact Wl.notT s h (z ▸ t)
  · obtain ⟨u, e, pu⟩ := s.bok q b
    exact ⟨u, ((W.lay_ext (o := o) h).bld q u b e).2, pu⟩
theorem Wl.lay_tup {p : Addr} {ds : List D} {vs : List V} (s : SRel G W) (h : W.H p = none) (r : RelL G W ds vs) : Rel G (W.lay p (.tup vs)) (.tup ds) (.ref p) :=
  .tup (.inl ⟨.inl upd_same, Wl.notT s h⟩) (r.ext (W.lay_ext h))
theorem Wl.lay_lst {p : Addr} {ds : List D} {vs : List V} (s : SRel G W) (h : W.H p = none) (r : RelL G W ds vs) : Rel G (W.lay p (.lst vs)) (.lst ds) (.ref p) :=
  .lst ⟨upd_same, Wl.notT s h⟩ (r.ext (W.lay_ext h))
/-- a new thing that may change -/
def Wl.bornO (W : Wl) (p : Addr) (ob : Ob) (ho : HO) : Wl := { al := fun n => if n = W.st.next then p else W.al n, st := W.st.new ob, H := upd W.H p ho, B := W.B }
theorem Wl.bornO_ext {p : Addr} {ob : Ob} {ho : HO} (s : SRel G W) (h : W.H p = none) : Ext W (W.bornO p ob ho) := by
  refine ⟨⟨Nat.le_succ _, fun n hn => if_neg (Nat.ne_of_lt hn), fun q u e t _ => ?_⟩, fun q u b e => ⟨b, (upd_ne (ne_of_none e h)).trans e⟩⟩
  have ne : q ≠ p := ne_of_none e h
  refine ⟨(upd_ne ne).trans e, fun tt => ?_⟩
  rcases tt with ⟨n, o, g, z⟩ | b
  · by_cases hn : n = W.st.next
    · have z' : (if n = W.st.next then p else W.al n) = q := z
      rw [if_pos hn] at z'
      exact ne z'.symm
    · have g' : (if n = W.st.next then some ob else W.st.get n) = some o := g
      have z' : (if n = W.st.next then p else W.al n) = q := z
      rw [if_neg hn] at g' z'
      exact t (.inl ⟨n, o, g', z'⟩)
  · exact t (.inr b)
theorem Wl.bornO_s {p : Addr} {ob : Ob} {ho : HO} (s : SRel G W) (h : W.H p = none) (r : ORel G (W.bornO p ob ho) ob p) : SRel G (W.bornO p ob ho) := by
  have ext := W.bornO_ext (ob := ob) (ho := ho) s h
  have cases_ : ∀ n o, (W.bornO p ob ho).st.get n = some o → (n = W.st.next ∧ o = ob) ∨ (n ≠ W.st.next ∧ W.st.get n = some o) := fun n o g => by
    have g' : (if n = W.st.next then some ob else W.st.get n) = some o := g
    by_cases hn : n = W.st.next
    · rw [if_pos hn] at g'; cases g'; exact .inl ⟨hn, rfl⟩
    · rw [if_neg hn] at g'; exact .inr ⟨hn, g'⟩
  have old : ∀ n o, W.st.get n = some o → (W.bornO p ob ho).al n = W.al n ∧ W.al n ≠ p := fun n o g => by
    refine ⟨if_neg (Nat.ne_of_lt (s.lt n o g)), fun z => ?_⟩
    exact Wl.notT s h (.inl ⟨n, o, g, z⟩)
  have new : (W.bornO p ob ho).al W.st.next = p := if_pos rfl
  refine ⟨fun n o g => ?_, fun n m o o' g g' e => ?_, fun n o g => ?_, fun q b => ?_, fun n o g => ?_, tab_of s (tab_new h)⟩
  · rcases cases_ n o g with ⟨rfl, _⟩ | ⟨_, g⟩
    · exact Nat.lt_succ_self _
    · exact Nat.lt_succ_of_lt (s.lt n o g)
  · rcases cases_ n o g with ⟨rfl, _⟩ | ⟨_, g1⟩
    · rcases cases_ m o' g' with ⟨rfl, _⟩ | ⟨_, g2⟩
      · rfl
      · rw [new, (old m o' g2).1] at e
        exact absurd e.symm (old m o' g2).2
    · rcases cases_ m o' g' with ⟨rfl, _⟩ | ⟨_, g2⟩
      · rw [new, (old n o g1).1] at e
        exact absurd e (old n o g1).2
      · rw [(old n o g1).1, (old m o' g2).1] at e
        exact s.inj n m o o' g1 g2 e
  · rcases cases_ n o g with ⟨rfl, rfl⟩ | ⟨_, g1⟩
    · rw [new]
      exact r
    · rw [(old n o g1).1]
      exact (s.ob n o g1).ext ext.toExt0 (upd_ne (old n o g1).2)
  · obtain ⟨u, e, pu⟩ := s.bok q b
    exact ⟨u, (ext.bld q u b e).2, pu⟩
  · rcases cases_ n o g with ⟨rfl, rfl⟩ | ⟨_, g1⟩
    · rw [new]
      exact fun b => Wl.notT s h (.inr b)
    · rw [(old n o g1).1]
      exact s.bsep n o g1
theorem Wl.bornO_ref {p : Addr} {ob : Ob} {ho : HO} : Rel G (W.bornO p ob ho) (.ref W.st.next) (.ref p) := by
  have q := Rel.ref (G := G) (W := W.bornO p ob ho) W.st.next (Nat.lt_succ_self _)
  have e : (W.bornO p ob ho).al W.st.next = p := if_pos rfl
  rw [e] at q
  exact q
/-- a new list that may change -/
abbrev Wl.born (W : Wl) (p : Addr) (ds : List D) (vs : List V) : Wl := W.bornO p (.lst ds) (.lst vs)
theorem Wl.born_ext {p : Addr} {ds : List D} {vs : List V} (s : SRel G W) (h : W.H p = none) : Ext W (W.born p ds vs) := W.bornO_ext s h
theorem Wl.born_s {p : Addr} {ds : List D} {vs : List V} (s : SRel G W) (h : W.H p = none) (r : RelL G W ds vs) : SRel G (W.born p ds vs) := W.bornO_s s h (.lst upd_same (r.ext (W.bornO_ext s h)))
theorem Wl.born_ref {p : Addr} {ds : List D} {vs : List V} : Rel G (W.born p ds vs) (.ref W.st.next) (.ref p) := by
  have q := Rel.ref (G := G) (W := W.born p ds vs) W.st.next (Nat.lt_succ_self _)
  have e : (W.born p ds vs).al W.st.next = p := if_pos rfl
  rw [e] at q
  exact q
/-- a thing that changes -/
def Wl.turnO (W : Wl) (n : Nat) (ob : Ob) (ho : HO) : Wl := { al := W.al, st := W.st.put n (some ob), H := upd W.H (W.al n) ho, B := W.B }
theorem Wl.turnO_ext {n : Nat} {o : Ob} {ob : Ob} {ho : HO} (s : SRel G W) (g : W.st.get n = some o) : Ext W (W.turnO n ob ho) := by
  refine ⟨⟨Nat.le_refl _, fun _ _ => rfl, fun q u e t _ => ?_⟩, fun q u b e => ⟨b, (upd_ne fun (z : q = W.al n) => s.bsep n o g (z ▸ b)).trans e⟩⟩
  have ne : q ≠ W.al n := fun z => t (.inl ⟨n, o, g, z.symm⟩)
  refine ⟨(upd_ne ne).trans e, fun tt => ?_⟩
  rcases tt with ⟨m, o', g', z⟩ | b
  · have g2 : (if m = n then some ob else W.st.get m) = some o' := g'
    by_cases hm : m = n
    · subst hm
      exact ne z.symm
    · rw [if_neg hm] at g2
      exact t (.inl ⟨m, o', g2, z⟩)
  · exact t (.inr b)
theorem Wl.turnO_s {n : Nat} {o : Ob} {ob : Ob} {ho : HO} (s : SRel G W) (g : W.st.get n = some o) (r : ORel G (W.turnO n ob ho) ob (W.al n)) : SRel G (W.turnO n ob ho) := by
  have ext := W.turnO_ext (ob := ob) (ho := ho) s g
  have back : ∀ m o', (W.turnO n ob ho).st.get m = some o' → (m = n ∧ o' = ob) ∨ (m ≠ n ∧ W.st.get m = some o') := fun m o' g' => by
    have g2 : (if m = n then some ob else W.st.get m) = some o' := g'
    by_cases hm : m = n
    · rw [if_pos hm] at g2; cases g2; exact .inl ⟨hm, rfl⟩
    · rw [if_neg hm] at g2; exact .inr ⟨hm, g2⟩
  have live : ∀ m o', (W.turnO n ob ho).st.get m = some o' → ∃ o2, W.st.get m = some o2 := fun m o' g' => by
    rcases back m o' g' with ⟨rfl, _⟩ | ⟨_, g2⟩
    · exact ⟨o, g⟩
    · exact ⟨_, g2⟩
  refine ⟨fun m o' g' => ?_, fun m k o1 o2 g1 g2 e => ?_, fun m o' g' => ?_, fun q b => ?_, fun m o' g' => ?_, tab_of s (tab_T s (.inl ⟨n, o, g, rfl⟩))⟩
  · obtain ⟨o2, h⟩ := live m o' g'
    exact s.lt m o2 h
  · obtain ⟨o3, h3⟩ := live m o1 g1
    obtain ⟨o4, h4⟩ := live k o2 g2
    exact s.inj m k o3 o4 h3 h4 e
  · rcases back m o' g' with ⟨rfl, rfl⟩ | ⟨hm, g2⟩
    · exact r
    · exact (s.ob m o' g2).ext ext.toExt0 (upd_ne fun z => hm (s.inj m n o' o g2 g z))
  · obtain ⟨u, e, pu⟩ := s.bok q b
    exact ⟨u, (ext.bld q u b e).2, pu⟩
  · obtain ⟨o2, h⟩ := live m o' g'
    exact s.bsep m o2 h
/-- a list that changes -/
abbrev Wl.turn (W : Wl) (n : Nat) (ds : List D) (vs : List V) : Wl := W.turnO n (.lst ds) (.lst vs)
theorem Wl.turn_ext {n : Nat} {o : Ob} {ds : List D} {vs : List V} (s : SRel G W) (g : W.st.get n = some o) : Ext W (W.turn n ds vs) := W.turnO_ext s g
theorem Wl.turn_s {n : Nat} {o : Ob} {ds : List D} {vs : List V} (s : SRel G W) (g : W.st.get n = some o) (r : RelL G W ds vs) : SRel G (W.turn n ds vs) := W.turnO_s s g (.lst upd_same (r.ext (W.turnO_ext s g)))
/-- nobody will change it any more -/
def Wl.kill (W : Wl) (n : Nat) : Wl := { W with st := W.st.put n none }
theorem Wl.kill_T {n : Nat} {p : Addr} (t : (W.kill n).T p) : W.T p := by
  rcases t with ⟨m, o, g, z⟩ | b
  · have g2 : (if m = n then none else W.st.get m) = some o := g
    by_cases hm : m = n
    · rw [if_pos hm] at g2; cases g2
    · rw [if_neg hm] at g2; exact .inl ⟨m, o, g2, z⟩
  · exact .inr b
theorem Wl.kill_ext {n : Nat} : Ext W (W.kill n) := ⟨⟨Nat.le_refl _, fun _ _ => rfl, fun q u e t _ => ⟨e, fun z => t (Wl.kill_T z)⟩⟩, fun q u b e => ⟨b, e⟩⟩
theorem Wl.kill_s {n : Nat} (s : SRel G W) : SRel G (W.kill n) := by
  have live : ∀ m o, (W.kill n).st.get m = some o → W.st.get m = some o ∧ m ≠ n := fun m o g => by
    have g2 : (if m = n then none else W.st.get m) = some o := g
    by_cases hm : m = n
    · rw [if_pos hm] at g2; cases g2
    · rw [if_neg hm] at g2; exact ⟨g2, hm⟩
  exact ⟨fun m o g => s.lt m o (live m o g).1, fun m k o o' g g' e => s.inj m k o o' (live m o g).1 (live k o' g').1 e, fun m o g => (s.ob m o (live m o g).1).ext W.kill_ext.toExt0 rfl, s.bok, fun m o g => s.bsep m o (live m o g).1, s.tab⟩
theorem Wl.kill_lst {n : Nat} {ds : List D} (s : SRel G W) (g : W.st.get n = some (.lst ds)) : Rel G (W.kill n) (.lst ds) (.ref (W.al n)) := by
  cases s.ob n _ g with
  | lst h r =>
    refine .lst ⟨h, fun t => ?_⟩ (r.ext W.kill_ext)
    rcases t with ⟨m, o, g', z⟩ | b
    · have g2 : (if m = n then none else W.st.get m) = some o := g'
      by_cases hm : m = n
      · rw [if_pos hm] at g2; cases g2
      · rw [if_neg hm] at g2
        exact hm (s.inj m n _ _ g2 g z)
    · exact s.bsep n _ g b
theorem Wl.kill_not {n : Nat} {o : Ob} (s : SRel G W) (g : W.st.get n = some o) : ¬ (W.kill n).T (W.al n) := fun t => by
  rcases t with ⟨m, o', g', z⟩ | b
  · have g2 : (if m = n then none else W.st.get m) = some o' := g'
    by_cases hm : m = n
    · rw [if_pos hm] at g2; cases g2
    · rw [if_neg hm] at g2
      exact hm (s.inj m n _ _ g2 g z)
  · exact s.bsep n _ g b
theorem Wl.kill_obj {n : Nat} {c : Str} {fn : List Str} {ds : List D} (s : SRel G W) (g : W.st.get n = some (.obj c fn ds)) : Rel G (W.kill n) (.obj c fn ds) (.ref (W.al n)) := by
  cases s.ob n _ g with
  | obj h _ l r => exact .obj ⟨⟨_, h⟩, Wl.kill_not s g⟩ l (r.ext W.kill_ext)
/-- a dict that is known from now on -/
def Wl.lock (W : Wl) (n : Nat) (ho : HO) : Wl := { W with st := W.st.put n none, H := upd W.H (W.al n) ho }
theorem Wl.lock_ext {n : Nat} {o : Ob} {ho : HO} (s : SRel G W) (g : W.st.get n = some o) : Ext W (W.lock n ho) :=
  ⟨⟨Nat.le_refl _, fun _ _ => rfl, fun q u e t _ => ⟨(upd_ne fun (z : q = W.al n) => t (.inl ⟨n, o, g, z.symm⟩)).trans e, fun z => t (Wl.kill_T (n := n) z)⟩⟩,
   fun q u b e => ⟨b, (upd_ne fun (z : q = W.al n) => s.bsep n o g (z ▸ b)).trans e⟩⟩
theorem Wl.lock_s {n : Nat} {o : Ob} {ho : HO} (s : SRel G W) (g : W.st.get n = some o) : SRel G (W.lock n ho) := by
  have live : ∀ m o, (W.lock n ho).st.get m = some o → W.st.get m = some o ∧ m ≠ n := fun m o g => by
    have g2 : (if m = n then none else W.st.get m) = some o := g
    by_cases hm : m = n
    · rw [if_pos hm] at g2; cases g2
    · rw [if_neg hm] at g2; exact ⟨g2, hm⟩
  have ext := W.lock_ext (ho := ho) s g
  refine ⟨fun m o g => s.lt m o (live m o g).1, fun m k o o' g g' e => s.inj m k o o' (live m o g).1 (live k o' g').1 e, fun m o' g' => (s.ob m o' (live m o' g').1).ext ext.toExt0 ?_, fun q b => ?_, fun m o' g' => s.bsep m o' (live m o' g').1, tab_of s (tab_T s (.inl ⟨n, o, g, rfl⟩))⟩
  · exact upd_ne fun z => (live m o' g').2 (s.inj m n o' o (live m o' g').1 g z)
  · obtain ⟨u, e, pu⟩ := s.bok q b
    exact ⟨u, (ext.bld q u b e).2, pu⟩
theorem Wl.lock_dct {n : Nat} {ks : List Str} {ds : List D} {vs : List V} {od : Obj} (s : SRel G W) (g : W.st.get n = some (.dct ks ds)) (l : ks.length = ds.length) (k : ∀ k ∈ ks, TxtOk k) (r : RelL G W ds vs) : Rel G (W.lock n (.frz od (.dK (zipK ks vs)))) (.dct ks ds) (.ref (W.al n)) :=
  .dct ⟨⟨od, upd_same⟩, Wl.kill_not s g⟩ l k (r.ext (W.lock_ext s g))
/-- a new dict that nobody will change -/
theorem Wl.lay_dct {p : Addr} {ks : List Str} {ds : List D} {vs : List V} {od : Obj} (s : SRel G W) (h : W.H p = none) (l : ks.length = ds.length) (k : ∀ k ∈ ks, TxtOk k) (r : RelL G W ds vs) : Rel G (W.lay p (.frz od (.dK (zipK ks vs)))) (.dct ks ds) (.ref p) :=
  .dct ⟨⟨od, upd_same⟩, Wl.notT s h⟩ l k (r.ext (W.lay_ext h))
theorem lookK_zip {W : Wl} : ∀ {ks : List Str} {ds : List D} {vs : List V} {x : Str} {d : D}, RelL G W ds vs → lookK ks ds x = some d → ∃ v, (ks.zip vs).lookup x = some v ∧ valV (zipK ks vs) (Sum.inr x) = some v ∧ Rel G W d v
  | [], _, _, _, _, _, h => by cases h
  | _ :: _, _, _, _, _, .nil, h => by cases h
  | k :: ks, _, _, x, d, .cons (d := e) (v := v) (ds := ds) (vs := vs) r rr, h => by
    have h' : (if k = x then some e else lookK ks ds x) = some d := h
    by_cases hk : k = x
    · rw [if_pos hk] at h'
      cases h'
      subst hk
      exact ⟨v, by simp, valV_pos rfl, r⟩
    · rw [if_neg hk] at h'
      obtain ⟨u, a, b, c⟩ := lookK_zip rr h'
      refine ⟨u, ?_, (valV_neg fun z => hk (Sum.inr.inj z)).trans b, c⟩
      show ((k, v) :: ks.zip vs).lookup x = some u
      rw [List.lookup_cons]
      have : (x == k) = false := by simpa using fun z : x = k => hk z.symm
      rw [this]
      exact a
theorem valV_none {x : Str} : ∀ {ks : List Str} {vs : List V}, ks.length = vs.length → (valV (zipK ks vs) (Sum.inr x)).isSome = decide (x ∈ ks)
  | [], _, _ => by simp [zipK, valV]
  | k :: ks, [], h => by cases h
  | k :: ks, v :: vs, h => by
    by_cases hk : k = x
    · subst hk
      rw [show valV (zipK (k :: ks) (v :: vs)) (Sum.inr k) = some v from valV_pos rfl]
      simp
    · rw [show valV (zipK (k :: ks) (v :: vs)) (Sum.inr x) = valV (zipK ks vs) (Sum.inr x) from valV_neg fun z => hk (Sum.inr.inj z), valV_none (by simpa using h)]
      have : (x ∈ k :: ks) = (x ∈ ks) := by
        rw [List.mem_cons]
        exact propext ⟨fun z => z.elim (fun z => absurd z.symm hk) id, .inr⟩
      simp only [this]
theorem zip_none {m : Str} : ∀ {fn : List Str} {vs : List V}, m ∉ fn → (fn.zip vs).lookup m = none
  | [], _, _ => rfl
  | f :: fn, [], _ => rfl
  | f :: fn, v :: vs, h => by
    show ((f, v) :: fn.zip vs).lookup m = none
    rw [List.lookup_cons]
    have : (m == f) = false := by simpa using fun z : m = f => h (z ▸ List.mem_cons_self ..)
    rw [this]
    exact zip_none fun z => h (List.mem_cons_of_mem _ z)
theorem putN_nodup {ks : List Str} {x : Str} (h : ks.Nodup) : (putN ks x).Nodup := by
  unfold putN
  by_cases hx : x ∈ ks
  · rw [if_pos hx]; exact h
  · rw [if_neg hx]
    refine List.nodup_append.mpr ⟨h, by simp, fun a ha b hb z => ?_⟩
    have : b = x := by simpa using hb
    exact hx (this ▸ z ▸ ha)
theorem putV_len {ks : List Str} {vs : List D} {x : Str} {d : D} (h : ks.length = vs.length) : (putN ks x).length = (putV ks vs x d).length := by
  unfold putN putV
  split <;> simp [h]
theorem putV_rel {W : Wl} {ks : List Str} {ds : List D} {vs : List V} {x : Str} {d : D} {v : V} (l : ks.length = ds.length) (r : RelL G W ds vs) (rd : Rel G W d v) :
    ∃ us, RelL G W (putV ks ds x d) us ∧ zipK (putN ks x) us = putK (zipK ks vs) (Sum.inr x) v ∧ (ks.Nodup → (putN ks x).zip us = putF x v (ks.zip vs)) := by
  have lv : ks.length = vs.length := l.trans r.length
  by_cases hx : x ∈ ks
  · refine ⟨List.zipWith (fun k w => if k = x then v else w) ks vs, ?_, ?_, ?_⟩
    · unfold putV
      rw [if_pos hx]
      clear hx lv
      induction ks generalizing ds vs with
      | nil => exact .nil
      | cons k ks ih =>
        cases r with
        | nil => exact .nil
        | cons a b =>
          simp only [List.zipWith_cons_cons]
          refine .cons ?_ (ih (by simpa using l) b)
          split
          · exact rd
          · exact a
    · have e : (valV (zipK ks vs) (Sum.inr x)).isSome = true := by rw [valV_none lv]; simpa using hx
      unfold putN putK
      rw [if_pos hx, if_pos (by rw [valV_any]; exact e)]
      clear e hx r l
      induction ks generalizing vs with
      | nil => rfl
      | cons k ks ih =>
        cases vs with
        | nil => rfl
        | cons w vs =>
          show (Sum.inr k, if k = x then v else w) :: zipK ks (List.zipWith (fun k w => if k = x then v else w) ks vs) = (if (Sum.inr k : Key) = Sum.inr x then _ else _) :: (zipK ks vs).map _
          rw [ih (by simpa using lv)]
          congr 1
          by_cases hk : k = x
          · rw [if_pos hk, if_pos (by rw [hk])]
          · rw [if_neg hk, if_neg (fun z => hk (Sum.inr.inj z))]
    · intro nd
      unfold putN
      rw [if_pos hx]
      clear r l
      induction ks generalizing vs with
      | nil => cases hx
      | cons k ks ih =>
        cases vs with
        | nil => cases lv
        | cons w vs =>
          have nd' := List.nodup_cons.mp nd
          show (k, if k = x then v else w) :: ks.zip (List.zipWith (fun k w => if k = x then v else w) ks vs) = if k = x then (k, v) :: ks.zip vs else (k, w) :: putF x v (ks.zip vs)
          by_cases hk : k = x
          · rw [if_pos hk, if_pos hk]
            congr 1
            have hn : x ∉ ks := hk ▸ nd'.1
            have lv' : ks.length = vs.length := by simpa using lv
            clear ih hx nd nd' lv
            induction ks generalizing vs with
            | nil => rfl
            | cons k2 ks ih2 =>
              cases vs with
              | nil => rfl
              | cons w2 vs =>
                have h2 : k2 ≠ x := fun z => hn (z ▸ List.mem_cons_self ..)
                show (k2, if k2 = x then v else w2) :: ks.zip (List.zipWith (fun k w => if k = x then v else w) ks vs) = (k2, w2) :: ks.zip vs
                rw [if_neg h2, ih2 _ (fun z => hn (List.mem_cons_of_mem _ z)) (by simpa using lv')]
          · rw [if_neg hk, if_neg hk, ih (by simpa using lv) ((List.mem_cons.mp hx).resolve_left fun z => hk z.symm) nd'.2]
  · refine ⟨vs ++ [v], ?_, ?_, ?_⟩
    · unfold putV
      rw [if_neg hx]
      exact r.append (.cons rd .nil)
    · have e : (valV (zipK ks vs) (Sum.inr x)) = none := by
        have := valV_none (x := x) lv
        rw [decide_eq_false hx] at this
        exact Option.not_isSome_iff_eq_none.mp (by rw [this]; decide)
      unfold putN
      rw [if_neg hx, putK_new v e]
      unfold zipK
      rw [List.map_append, List.zip_append (by simpa using lv)]
      rfl
    · intro nd
      unfold putN
      rw [if_neg hx, List.zip_append lv]
      clear r l
      induction ks generalizing vs with
      | nil => cases vs with
        | nil => rfl
        | cons _ _ => cases lv
      | cons k ks ih =>
        cases vs with
        | nil => cases lv
        | cons w vs =>
          have hk : k ≠ x := fun z => hx (z ▸ List.mem_cons_self ..)
          show (k, w) :: (ks.zip vs ++ [(x, v)]) = if k = x then _ else (k, w) :: putF x v (ks.zip vs)
          rw [if_neg hk, ← ih (by simpa using lv) (fun z => hx (List.mem_cons_of_mem _ z)) (List.nodup_cons.mp nd).2]
          rfl
end
structure FRel (G : GX) (W : Wl) (φ : Fr) (σ : L2.St) : Prop where
  len : φ.length = σ.length
  at_ : ∀ (i : Nat) (d : D), φ[i]? = some (some d) → ∃ v, σ[i]? = some (some v) ∧ Rel G W d v
section
variable {G : GX} {W W' : Wl} {φ : Fr} {σ : L2.St}
theorem FRel.ext0 (e : Ext0 W W') (f : FRel G W φ σ) : FRel G W' φ σ := ⟨f.len, fun i d h => let ⟨v, a, b⟩ := f.at_ i d h; ⟨v, a, b.ext0 e⟩⟩
theorem FRel.ext (e : Ext W W') (f : FRel G W φ σ) : FRel G W' φ σ := f.ext0 e.toExt0
theorem FRel.set (f : FRel G W φ σ) (i : Nat) {d : D} {v : V} (r : Rel G W d v) : FRel G W (φ.set i (some d)) (σ.set i (some v)) := by
  refine ⟨by rw [List.length_set, List.length_set, f.len], fun j d' h => ?_⟩
  by_cases hj : i = j
  · subst hj
    by_cases hi : i < φ.length
    · rw [List.getElem?_set_self hi] at h
      cases h
      exact ⟨v, by rw [List.getElem?_set_self (f.len ▸ hi)], r⟩
    · rw [List.getElem?_eq_none (by simpa using hi)] at h; cases h
  · rw [List.getElem?_set_ne hj] at h
    obtain ⟨v', h1, h2⟩ := f.at_ j d' h
    exact ⟨v', by rw [List.getElem?_set_ne hj]; exact h1, h2⟩
/-- another datum for the same value -/
theorem FRel.setD (f : FRel G W φ σ) (i : Nat) {d : D} {v : V} (hv : σ[i]? = some (some v)) (r : Rel G W d v) : FRel G W (φ.set i (some d)) σ := by
  refine ⟨by rw [List.length_set, f.len], fun j d' h => ?_⟩
  by_cases hj : i = j
  · subst hj
    by_cases hi : i < φ.length
    · rw [List.getElem?_set_self hi] at h
      cases h
      exact ⟨v, hv, r⟩
    · rw [List.getElem?_eq_none (by simpa using hi)] at h; cases h
  · rw [List.getElem?_set_ne hj] at h
    exact f.at_ j d' h
end
end OM
namespace OM
open PySem PySem.Spec L2
theorem line_eq : line = sizeLine := by rw [sizeLine_eq]; rfl
mutual
def toPy : D → PyData
  | .non => .none
  | .bl b => .bool b
  | .int i => .int i
  | .str x => .str x
  | .tup xs => .tuple (toPyL xs)
  | .lst xs => .list (toPyL xs)
  | _ => .none
def toPyL : List D → List PyData
  | [] => []
  | x :: xs => toPy x :: toPyL xs
end
theorem toPyL_map : ∀ xs : List D, toPyL xs = xs.map toPy
  | [] => rfl
  | x :: xs => by simp only [toPyL, List.map_cons, toPyL_map xs]
mutual
theorem peq_py : ∀ (a b : D), plain a = true → plain b = true → PyData.eqv (toPy a) (toPy b) = peq a b
  | .non, b, _, hb => by cases b <;> first | rfl | (simp [plain] at hb)
  | .bl _, b, _, hb => by cases b <;> first | rfl | (simp [plain] at hb)
  | .int _, b, _, hb => by cases b <;> first | rfl | (simp [plain] at hb)
  | .str _, b, _, hb => by cases b <;> first | rfl | (simp [plain] at hb)
  | .tup xs, b, ha, hb => by
    cases b with
    | tup ys => simp only [toPy, PyData.eqv, peq]; exact peqL_py xs ys (by simpa [plain] using ha) (by simpa [plain] using hb)
    | _ => first | rfl | (simp [plain] at hb)
  | .lst xs, b, ha, hb => by
    cases b with
    | lst ys => simp only [toPy, PyData.eqv, peq]; exact peqL_py xs ys (by simpa [plain] using ha) (by simpa [plain] using hb)
    | _ => first | rfl | (simp [plain] at hb)
  | .dct .., _, ha, _ => by simp [plain] at ha
  | .obj .., _, ha, _ => by simp [plain] at ha
  | .ref _, _, ha, _ => by simp [plain] at ha
  | .fn _, _, ha, _ => by simp [plain] at ha
  | .scr _, _, ha, _ => by simp [plain] at ha
theorem peqL_py : ∀ (a b : List D), plainL a = true → plainL b = true → PyData.eqvAll (toPyL a) (toPyL b) = peqL a b
  | [], [], _, _ => rfl
  | [], _ :: _, _, _ => rfl
  | _ :: _, [], _, _ => rfl
  | x :: xs, y :: ys, ha, hb => by
    have ha' : plain x = true ∧ plainL xs = true := by simpa [plainL] using ha
    have hb' : plain y = true ∧ plainL ys = true := by simpa [plainL] using hb
    simp only [toPyL, PyData.eqvAll, peqL, peq_py x y ha'.1 hb'.1, peqL_py xs ys ha'.2 hb'.2]
end
mutual
theorem dep_py : ∀ (a : D), (toPy a).depth = dep a
  | .non => rfl
  | .bl _ => rfl
  | .int _ => rfl
  | .str _ => rfl
  | .tup xs => by simp only [toPy, PyData.depth, dep, depL_py xs]
  | .lst xs => by simp only [toPy, PyData.depth, dep, depL_py xs]
  | .dct .. => rfl
  | .obj .. => rfl
  | .ref _ => rfl
  | .fn _ => rfl
  | .scr _ => rfl
theorem depL_py : ∀ (a : List D), PyData.depthAll (toPyL a) = depL a
  | [] => rfl
  | x :: xs => by simp only [toPyL, PyData.depthAll, depL, dep_py x, depL_py xs]
end
mutual
theorem Rel.dp {G : GX} {W : Wl} : ∀ {d : D} {v : V}, Rel G W d v → plain d = true → Dp G.K W.H v (toPy d) ∧ (toPy d).canLay0 = true
  | _, _, .non, _ => ⟨.non, rfl⟩
  | _, _, .bl b, _ => ⟨.bl b, rfl⟩
  | _, _, .int i, _ => ⟨.int i, rfl⟩
  | _, _, .str x h, _ => ⟨.str x, h.1⟩
  | _, _, .tup h r, p => by
    have q := RelL.dp r (by simpa [plain] using p)
    exact ⟨.tup h.sq q.1, by simp only [toPy, PyData.canLay0]; exact q.2⟩
  | _, _, .lst h r, p => by
    have q := RelL.dp r (by simpa [plain] using p)
    exact ⟨.lst h.sq q.1, by simp only [toPy, PyData.canLay0]; exact q.2⟩
  | _, _, .ref _ _, p => by simp [plain] at p
  | _, _, .fn _, p => by simp [plain] at p
  | _, _, .scr _, p => by simp [plain] at p
  | _, _, .dct _ _ _ _, p => by simp [plain] at p
  | _, _, .obj _ _ _, p => by simp [plain] at p
theorem RelL.dp {G : GX} {W : Wl} : ∀ {ds : List D} {vs : List V}, RelL G W ds vs → plainL ds = true → DpAll G.K W.H vs (toPyL ds) ∧ PyData.canLayAll0 (toPyL ds) = true
  | _, _, .nil, _ => ⟨.nil, rfl⟩
  | d :: ds, _, .cons h r, p => by
    have p' : plain d = true ∧ plainL ds = true := by simpa [plainL] using p
    have a := Rel.dp h p'.1
    have b := RelL.dp r p'.2
    exact ⟨.cons a.1 b.1, by simp only [toPyL, PyData.canLayAll0, a.2, b.2]; rfl⟩
end
theorem look_self {st : Store} {d : D} (h : ∀ n, d ≠ .ref n) : look st d = if plain d then some d else none := by
  cases d <;> first | rfl | exact absurd rfl (h _)
/-- what is looked at is data -/
theorem look_dp {G : GX} {W : Wl} {d e : D} {v : V} (s : SRel G W) (r : Rel G W d v) (h : look W.st d = some e) : plain e = true ∧ Dp G.K W.H v (toPy e) ∧ (toPy e).canLay0 = true := by
  cases r with
  | ref n hn =>
    have h' : (match W.st.get n with
      | some (.lst xs) => if plainL xs then some (D.lst xs) else none
      | _ => none) = some e := h
    cases g : W.st.get n with
    | none => rw [g] at h'; cases h'
    | some o =>
      rw [g] at h'
      cases o with
      | lst xs =>
        have h2 : (if plainL xs then some (D.lst xs) else none) = some e := h'
        by_cases hp : plainL xs = true
        · rw [if_pos hp] at h2
          cases h2
          cases s.ob n _ g with
          | lst a r =>
            have q := r.dp hp
            exact ⟨by simpa [plain] using hp, .lst (.inl (.inl a)) q.1, by simp only [toPy, PyData.canLay0]; exact q.2⟩
        · rw [if_neg hp] at h2; cases h2
      | dct _ _ => cases h'
      | obj _ _ _ => cases h'
  | _ =>
    rw [look_self (by intro n z; cases z)] at h
    split at h
    · rename_i hp
      cases h
      first
        | exact ⟨hp, Rel.dp (by first | exact .non | exact .bl _ | exact .int _ | exact .str _ ‹_› | exact .tup ‹_› ‹_› | exact .lst ‹_› ‹_›) hp⟩
        | simp [plain] at hp
    · cases h
/-- a result d behind W, the store st' -/
def Lf (G : GX) (W : Wl) (d : D) (st' : Store) (Q : VK) : Prop := ∀ W' v, W'.st = st' → Ext W W' → SRel G W' → Rel G W' d v → Q v W'.H
section
variable {G : GX} {W : Wl} {Q : VK}
theorem Lf.here {d : D} {v : V} (l : Lf G W d W.st Q) (s : SRel G W) (r : Rel G W d v) : Q v W.H := l W v rfl (.refl W) s r
theorem Lf.tup {ds : List D} {vs : List V} (l : Lf G W (.tup ds) W.st Q) (s : SRel G W) (r : RelL G W ds vs) (p : Addr) (h : W.H p = none) : Q (.ref p) (upd W.H p (.tup vs)) :=
  l (W.lay p (.tup vs)) _ rfl (W.lay_ext h) (Wl.lay_s s h) (Wl.lay_tup s h r)
theorem Lf.lst {ds : List D} {vs : List V} (l : Lf G W (.lst ds) W.st Q) (s : SRel G W) (r : RelL G W ds vs) (p : Addr) (h : W.H p = none) : Q (.ref p) (upd W.H p (.lst vs)) :=
  l (W.lay p (.lst vs)) _ rfl (W.lay_ext h) (Wl.lay_s s h) (Wl.lay_lst s h r)
theorem Lf.mk {m : Bool} {ds : List D} {vs : List V} {d' : D} {st' : Store} (e : OM.mk m (.lst ds) W.st = ok d' st') (l : Lf G W d' st' Q) (s : SRel G W) (r : RelL G W ds vs) (p : Addr) (h : W.H p = none) : Q (.ref p) (upd W.H p (.lst vs)) := by
  cases m with
  | false =>
    cases e
    exact l.lst s r p h
  | true =>
    cases e
    exact l (W.born p ds vs) _ rfl (W.born_ext s h) (Wl.born_s s h r) Wl.born_ref
end
/-- the list that a datum is -/
theorem list_at {G : GX} {W : Wl} {d : D} {v : V} {xs : List D} (s : SRel G W) (r : Rel G W d v) (h : listOf W.st d = some xs) : ∃ p vs, v = .ref p ∧ W.H p = some (.lst vs) ∧ RelL G W xs vs := by
  cases r with
  | lst a r => cases h; exact ⟨_, _, rfl, a.1, r⟩
  | ref n hn =>
    have h' : (match W.st.get n with
      | some (.lst xs) => some xs
      | _ => none) = some xs := h
    cases g : W.st.get n with
    | none => rw [g] at h'; cases h'
    | some o =>
      rw [g] at h'
      cases o with
      | lst ys =>
        cases h'
        cases s.ob n _ g with
        | lst a r => exact ⟨_, _, rfl, a, r⟩
      | dct _ _ => cases h'
      | obj _ _ _ => cases h'
  | _ => cases h
theorem seq_at {G : GX} {W : Wl} {d : D} {v : V} {xs : List D} (s : SRel G W) (r : Rel G W d v) (h : seqOf W.st d = some xs) : ∃ p vs, v = .ref p ∧ RelL G W xs vs ∧ (W.H p = some (.lst vs) ∨ SqT G.K W.H p vs) := by
  cases r with
  | tup a r => cases h; exact ⟨_, _, rfl, r, .inr a.sq⟩
  | lst a r => cases h; exact ⟨_, _, rfl, r, .inl a.1⟩
  | ref n hn =>
    have h' : listOf W.st (.ref n) = some xs := h
    obtain ⟨p, vs, e, a, b⟩ := list_at (G := G) s (.ref n hn) h'
    exact ⟨p, vs, e, b, .inl a⟩
  | _ => cases h
theorem strOk_append {x y : Str} (hx : PyData.strOk x = true) (hy : PyData.strOk y = true) : PyData.strOk (x ++ y) = true := by
  have e : (x ++ y).cps = x.cps ++ y.cps := rfl
  unfold PyData.strOk at *
  rw [e, Array.all_append, hx, hy]; rfl
theorem strOk_list {l : List Nat} : PyData.strOk ⟨l.toArray⟩ = l.all (· < 0x110000) := by
  unfold PyData.strOk
  simp
theorem strOk_mem {x : Str} : PyData.strOk x = true ↔ ∀ c ∈ x.cps.toList, c < 0x110000 := by
  unfold PyData.strOk
  rw [← Array.all_toList, List.all_eq_true]
  simp
def BO.op : BO → Operator
  | .add => .Add | .sub => .Sub | .mul => .Mult | .div => .FloorDiv | .mod => .Mod | .pow => .Pow
def CO.op : CO → CmpOp
  | .eq => .Eq | .ne => .NotEq | .lt => .Lt | .le => .LtE | .gt => .Gt | .ge => .GtE | .in_ => .In | .notin => .NotIn | .is_ => .Is | .isnot => .IsNot
def rBin (G : GX) (o : BO) : R2 := fun x y H Q => ∃ W a b d, W.H = H ∧ SRel G W ∧ Rel G W a x ∧ Rel G W b y ∧ binop W.st o a b = some d ∧ Lf G W d W.st Q
section
variable {X : Cx} {G : GX}
theorem op_bin_add (hK : X.K = G.K) : OpR X (binaryOp .Add) (rBin G .add) := by
  intro pins s σ H x y v u Q I rx ry h
  obtain ⟨W, a, b, d, rfl, hs, ra, rb, e, lf⟩ := h
  have lists : ∀ xs ys, listOf W.st a = some xs → listOf W.st b = some ys → (if xs.length + ys.length ≤ line then some (D.lst (xs ++ ys)) else none) = some d →
      wpAny (model X.prog X.w) X.A (binaryOp .Add v u) (EP X pins σ Q) X.xe s := fun xs ys h1 h2 h3 => by
    obtain ⟨p, vs, rfl, hp, r1⟩ := list_at hs ra h1
    obtain ⟨q, us, rfl, hq, r2⟩ := list_at hs rb h2
    by_cases hz : xs.length + ys.length ≤ line
    · rw [if_pos hz] at h3
      cases h3
      refine op_cat pins s σ W.H _ _ v u Q I rx ry ⟨p, q, vs, us, rfl, rfl, hp, hq, ?_, fun l hl => lf.lst hs (r1.append r2) l hl⟩
      rw [← r1.length, ← r2.length, ← line_eq]; exact hz
    · rw [if_neg hz] at h3; cases h3
  cases ra with
  | int i =>
    cases rb with
    | int j => cases e; exact op_add pins s σ W.H _ _ v u Q I rx ry ⟨i, j, rfl, rfl, lf.here hs (.int _)⟩
    | _ => cases e
  | bl x =>
    cases rb with
    | int j =>
      cases e
      obtain ⟨t, rfl⟩ := ry
      cases rx
      exact PySem.IntBool.add_bool_int ⟨.int _, W.H, I.tok _, ⟨_, rfl⟩, lf.here hs (.int _)⟩
    | _ => cases e
  | str x hx =>
    cases rb with
    | str y hy =>
      have e' : (if x.length + y.length ≤ line then some (D.str (x ++ y)) else none) = some d := e
      by_cases hz : x.length + y.length ≤ line
      · rw [if_pos hz] at e'
        cases e'
        exact op_add_str pins s σ W.H _ _ v u Q I rx ry ⟨x, y, rfl, rfl, by rw [← line_eq]; exact hz, lf.here hs (.str _ ⟨strOk_append hx.1 hy.1, by rw [← line_eq]; exact Nat.le_trans (Nat.le_of_eq (by show (x.cps ++ y.cps).size = _; rw [Array.size_append]; rfl)) hz⟩)⟩
      · rw [if_neg hz] at e'; cases e'
    | _ => cases e
  | tup h r =>
    cases rb with
    | @tup q ys us h2 r2 =>
      rename_i p xs vs
      have e' : (if xs.length + ys.length ≤ line then some (D.tup (xs ++ ys)) else none) = some d := e
      by_cases hz : xs.length + ys.length ≤ line
      · rw [if_pos hz] at e'
        cases e'
        refine op_catA pins s σ W.H _ _ v u Q I rx ry ⟨p, q, vs, us, rfl, rfl, by rw [hK]; exact h.sq, by rw [hK]; exact h2.sq, by rw [← r.length, ← r2.length, ← line_eq]; exact hz, fun z => ?_, fun _ z => ?_, fun _ _ l hl => lf.tup hs (r.append r2) l hl⟩
        · have : xs = [] := List.eq_nil_of_length_eq_zero (by rw [r.length, z]; rfl)
          subst this
          exact lf.here hs (.tup h2 r2)
        · have : ys = [] := List.eq_nil_of_length_eq_zero (by rw [r2.length, z]; rfl)
          subst this
          rw [List.append_nil] at lf
          exact lf.here hs (.tup h r)
      · rw [if_neg hz] at e'; cases e'
    | _ => cases e
  | lst h r =>
    cases hb : listOf W.st b with
    | none => cases rb <;> first | (cases e; done) | (simp [binop, listOf] at e; done) | (simp [listOf] at hb; done) | (simp only [binop, listOf] at e; simp only [listOf] at hb; rw [hb] at e; cases e)
    | some ys =>
      refine lists _ ys rfl hb ?_
      cases rb <;> first | (cases hb; done) | (simp only [binop, hb] at e; exact e)
  | ref n hn =>
    cases ha : listOf W.st (.ref n) with
    | none => cases rb <;> (simp only [binop, ha] at e; cases e)
    | some xs =>
      cases hb : listOf W.st b with
      | none => cases rb <;> first | (simp only [binop, ha, hb] at e; cases e; done) | (simp [listOf] at hb; done)
      | some ys =>
        refine lists xs ys ha hb ?_
        cases rb <;> first | (cases hb; done) | (simp only [binop, ha, hb] at e; exact e)
  | _ => cases rb <;> cases e
end
end OM
namespace OM
open PySem PySem.Spec PyProof.Rows L2
mutual
theorem alk_py : ∀ a b : D, plain a = true → plain b = true → PySem.W.alike (toPy a) (toPy b) = alk a b
  | .non, b, ha, hb => by cases b <;> first | (simp only [toPy, PySem.W.alike, alk]; done) | cases hb
  | .bl _, b, ha, hb => by cases b <;> first | (simp only [toPy, PySem.W.alike, alk]; done) | cases hb
  | .int _, b, ha, hb => by cases b <;> first | (simp only [toPy, PySem.W.alike, alk]; done) | cases hb
  | .str _, b, ha, hb => by cases b <;> first | (simp only [toPy, PySem.W.alike, alk]; done) | cases hb
  | .tup xs, b, ha, hb => by
    cases b with
    | tup ys => simp only [toPy, PySem.W.alike, alk]; exact alkL_py xs ys (by simpa [plain] using ha) (by simpa [plain] using hb)
    | _ => first | (simp only [toPy, PySem.W.alike, alk]; done) | cases hb
  | .lst xs, b, ha, hb => by
    cases b with
    | lst ys => simp only [toPy, PySem.W.alike, alk]; exact alkL_py xs ys (by simpa [plain] using ha) (by simpa [plain] using hb)
    | _ => first | (simp only [toPy, PySem.W.alike, alk]; done) | cases hb
  | .dct _ _, _, ha, _ => by cases ha
  | .obj _ _ _, _, ha, _ => by cases ha
  | .ref _, _, ha, _ => by cases ha
  | .fn _, _, ha, _ => by cases ha
  | .scr _, _, ha, _ => by cases ha
theorem alkL_py : ∀ a b : List D, plainL a = true → plainL b = true → PySem.W.alikeAll (toPyL a) (toPyL b) = alkL a b
  | [], b, _, _ => by cases b <;> simp only [toPyL, PySem.W.alikeAll, alkL]
  | x :: xs, [], _, _ => by simp only [toPyL, PySem.W.alikeAll, alkL]
  | x :: xs, y :: ys, ha, hb => by
    have ha' : plain x = true ∧ plainL xs = true := by simpa [plainL] using ha
    have hb' : plain y = true ∧ plainL ys = true := by simpa [plainL] using hb
    simp only [toPyL, PySem.W.alikeAll, alkL, alk_py x y ha'.1 hb'.1, alkL_py xs ys ha'.2 hb'.2]
end
theorem row_nil (y : PyData) (ys : List PyData) : PySem.W.rowLt [] (y :: ys) = true := by
  unfold PySem.W.rowLt
  rw [PySem.W.toks_all_cons]
  rfl
mutual
theorem dlt_py : ∀ a b : D, plain a = true → plain b = true → alk a b = true → PySem.W.dataLt (toPy a) (toPy b) = dlt a b
  | .non, b, ha, hb, h => by
    cases b <;> first | (cases h; done) | (simp only [toPy, dlt, PySem.W.dataLt, PySem.W.keyToks]; rfl)
  | .bl p, b, ha, hb, h => by
    cases b with
    | bl q => simp only [toPy, PySem.W.dataLt_bool, dlt]; try (cases p <;> cases q <;> rfl)
    | _ => cases h
  | .int i, b, ha, hb, h => by
    cases b with
    | int j => simp only [toPy, PySem.W.dataLt_int, dlt]
    | _ => cases h
  | .str x, b, ha, hb, h => by
    cases b with
    | str y => simp only [toPy, PySem.W.dataLt_str, dlt]
    | _ => cases h
  | .tup xs, b, ha, hb, h => by
    cases b with
    | tup ys =>
      simp only [toPy, PySem.W.dataLt_tuple, dlt]
      exact dltL_py xs ys (by simpa [plain] using ha) (by simpa [plain] using hb) (by simpa [alk] using h)
    | _ => cases h
  | .lst xs, b, ha, hb, h => by
    cases b with
    | lst ys =>
      simp only [toPy, PySem.W.dataLt_list, dlt]
      exact dltL_py xs ys (by simpa [plain] using ha) (by simpa [plain] using hb) (by simpa [alk] using h)
    | _ => cases h
  | .dct _ _, _, ha, _, _ => by cases ha
  | .obj _ _ _, _, ha, _, _ => by cases ha
  | .ref _, _, ha, _, _ => by cases ha
  | .fn _, _, ha, _, _ => by cases ha
  | .scr _, _, ha, _, _ => by cases ha
theorem dltL_py : ∀ a b : List D, plainL a = true → plainL b = true → alkL a b = true → PySem.W.rowLt (toPyL a) (toPyL b) = dltL a b
  | [], [], _, _, _ => by rfl
  | [], y :: ys, _, _, _ => by simp only [toPyL, dltL]; exact row_nil _ _
  | x :: xs, [], _, _, _ => by
    simp only [toPyL, dltL]
    unfold PySem.W.rowLt
    rw [PySem.W.toks_all_cons]
    rfl
  | x :: xs, y :: ys, ha, hb, h => by
    have ha' : plain x = true ∧ plainL xs = true := by simpa [plainL] using ha
    have hb' : plain y = true ∧ plainL ys = true := by simpa [plainL] using hb
    have h' : alk x y = true ∧ alkL xs ys = true := by simpa [alkL] using h
    simp only [toPyL, dltL]
    unfold PySem.W.rowLt
    rw [PySem.W.dataLt_cons (by rw [alk_py x y ha'.1 hb'.1]; exact h'.1), peq_py x y ha'.1 hb'.1, dlt_py x y ha'.1 hb'.1 h'.1]
    rw [show PyProof.Rows.lexLt itemOrd (PySem.W.keyToksAll (toPyL xs)) (PySem.W.keyToksAll (toPyL ys)) = dltL xs ys from dltL_py xs ys ha'.2 hb'.2 h'.2]
end
end OM
namespace OM
open PySem PySem.Spec L2
section
variable {X : Cx} {G : GX}
theorem op_bin_sub : OpR X (binaryOp .Sub) (rBin G .sub) := by
  intro pins s σ H x y v u Q I rx ry h
  obtain ⟨W, a, b, d, rfl, hs, ra, rb, e, lf⟩ := h
  cases ra with
  | int i => cases rb with
    | int j => cases e; exact op_sub pins s σ W.H _ _ v u Q I rx ry ⟨i, j, rfl, rfl, lf.here hs (.int _)⟩
    | bl b =>
      cases e
      obtain ⟨t, rfl⟩ := rx
      cases ry
      exact PySem.IntBool.sub_int_bool ⟨.int _, W.H, I.tok _, ⟨_, rfl⟩, lf.here hs (.int _)⟩
    | _ => cases e
  | _ => cases rb <;> cases e
theorem op_bin_div : OpR X (binaryOp .FloorDiv) (rBin G .div) := by
  intro pins s σ H x y v u Q I rx ry h
  obtain ⟨W, a, b, d, rfl, hs, ra, rb, e, lf⟩ := h
  cases ra with
  | int i => cases rb with
    | int j =>
      have e' : (if 0 < j ∧ j < 1073741824 then some (D.int (i / j)) else none) = some d := e
      by_cases hc : 0 < j ∧ j < 1073741824
      · rw [if_pos hc] at e'
        cases e'
        exact op_fdiv pins s σ W.H _ _ v u Q I rx ry ⟨i, j, rfl, rfl, hc, lf.here hs (.int _)⟩
      · rw [if_neg hc] at e'; cases e'
    | _ => cases e
  | _ => cases rb <;> cases e
theorem op_bin_mod : OpR X (binaryOp .Mod) (rBin G .mod) := by
  intro pins s σ H x y v u Q I rx ry h
  obtain ⟨W, a, b, d, rfl, hs, ra, rb, e, lf⟩ := h
  cases ra with
  | int i => cases rb with
    | int j =>
      have e' : (if 0 < j then some (D.int (i % j)) else none) = some d := e
      by_cases hc : 0 < j
      · rw [if_pos hc] at e'
        cases e'
        exact op_mod pins s σ W.H _ _ v u Q I rx ry ⟨i, j, rfl, rfl, hc, lf.here hs (.int _)⟩
      · rw [if_neg hc] at e'; cases e'
    | _ => cases e
  | _ => cases rb <;> cases e
theorem op_bin_pow : OpR X (binaryOp .Pow) (rBin G .pow) := by
  intro pins s σ H x y v u Q I rx ry h
  obtain ⟨W, a, b, d, rfl, hs, ra, rb, e, lf⟩ := h
  cases ra with
  | int i => cases rb with
    | int j =>
      have e' : (if 0 ≤ j ∧ j ≤ 1000 ∧ i.natAbs < 2 ^ 64 then some (D.int (i ^ j.toNat)) else none) = some d := e
      by_cases hc : 0 ≤ j ∧ j ≤ 1000 ∧ i.natAbs < 2 ^ 64
      · rw [if_pos hc] at e'
        cases e'
        exact op_pow pins s σ W.H _ _ v u Q I rx ry ⟨i, j, rfl, rfl, ⟨hc.1, Int.le_trans hc.2.1 (by decide), hc.2.2⟩, lf.here hs (.int _)⟩
      · rw [if_neg hc] at e'; cases e'
    | _ => cases e
  | _ => cases rb <;> cases e
theorem foldl_app (l : List (Array Nat)) : ∀ (acc : Array Nat), (l.foldl (· ++ ·) acc).toList = acc.toList ++ (l.map Array.toList).flatten := by
  induction l with
  | nil => intro acc; simp
  | cons a l ih => intro acc; simp [ih]
theorem txt_mul {x : Str} {j : Int} (h1 : 2 ≤ j) (h2 : 1 ≤ x.length) : Txt.mul x j = ⟨((List.replicate j.toNat x.cps.toList).flatten).toArray⟩ := by
  have c1 : ¬ j < 1 := by omega
  have c2 : ¬ (j == 1 || x.length == 0) = true := by
    simp only [Bool.or_eq_true, beq_iff_eq, not_or]
    omega
  unfold Txt.mul
  rw [if_neg c1, if_neg c2]
  congr 1
  apply Array.toList_inj.mp
  rw [foldl_app, List.map_replicate]
  rfl
theorem op_bin_mul : OpR X (binaryOp .Mult) (rBin G .mul) := by
  intro pins s σ H x y v u Q I rx ry h
  obtain ⟨W, a, b, d, rfl, hs, ra, rb, e, lf⟩ := h
  have lists : ∀ (xs : List D) (j : Int) (vb : V), Rel G W b vb → b = .int j → listOf W.st a = some xs → (if 0 ≤ j ∧ xs.length * j.toNat ≤ 4096 ∧ j ≤ 4096 then some (D.lst ((List.replicate j.toNat xs).flatten)) else none) = some d →
      wpAny (model X.prog X.w) X.A (binaryOp .Mult v u) (EP X pins σ Q) X.xe s := fun xs j vb _ hb h1 h3 => by
    subst hb
    obtain ⟨p, vs, rfl, hp, r1⟩ := list_at hs ra h1
    cases rb
    by_cases hz : 0 ≤ j ∧ xs.length * j.toNat ≤ 4096 ∧ j ≤ 4096
    · rw [if_pos hz] at h3
      cases h3
      have hl : vs.length * j.toNat ≤ sizeLine := by rw [← r1.length]; exact Nat.le_trans hz.2.1 (by decide)
      exact op_rep pins s σ W.H _ _ v u Q I rx ry ⟨p, j, vs, rfl, rfl, hp, by omega, by omega, hl, fun l hl => lf.lst hs (r1.flat _) l hl⟩
    · rw [if_neg hz] at h3; cases h3
  cases ra with
  | int i => cases rb with
    | int j =>
      have e' : (if i.natAbs < 2 ^ 64 ∨ j.natAbs < 2 ^ 64 then some (D.int (i * j)) else none) = some d := e
      by_cases hc : i.natAbs < 2 ^ 64 ∨ j.natAbs < 2 ^ 64
      · rw [if_pos hc] at e'
        cases e'
        exact op_mul pins s σ W.H _ _ v u Q I rx ry ⟨i, j, rfl, rfl, by unfold CMul; omega, lf.here hs (.int _)⟩
      · rw [if_neg hc] at e'; cases e'
    | _ => cases e
  | str x hx => cases rb with
    | int j =>
      have e' : (if 2 ≤ j ∧ j ≤ 4096 ∧ 1 ≤ x.length ∧ x.length * j.toNat ≤ 4096 then some (D.str ⟨((List.replicate j.toNat x.cps.toList).flatten).toArray⟩) else none) = some d := e
      by_cases hc : 2 ≤ j ∧ j ≤ 4096 ∧ 1 ≤ x.length ∧ x.length * j.toNat ≤ 4096
      · rw [if_pos hc] at e'
        cases e'
        obtain ⟨tx, rfl⟩ := rx
        obtain ⟨ty, rfl⟩ := ry
        have hx := hx.1
        have ok : PyData.strOk ⟨((List.replicate j.toNat x.cps.toList).flatten).toArray⟩ = true := by
          rw [strOk_mem] at hx ⊢
          intro c hc
          have hc' : c ∈ (List.replicate j.toNat x.cps.toList).flatten := by simpa using hc
          obtain ⟨l, hl, hcl⟩ := List.mem_flatten.mp hc'
          rw [(List.mem_replicate.mp hl).2] at hcl
          exact hx c hcl
        have hlen : (⟨((List.replicate j.toNat x.cps.toList).flatten).toArray⟩ : Str).length ≤ sizeLine := by
          have e1 : (⟨((List.replicate j.toNat x.cps.toList).flatten).toArray⟩ : Str).length = j.toNat * x.length := by
            show (((List.replicate j.toNat x.cps.toList).flatten).toArray).size = _
            rw [List.size_toArray, List.length_flatten, List.map_replicate, List.sum_replicate_nat, Array.length_toList]
            rfl
          rw [e1, Nat.mul_comm]
          exact Nat.le_trans hc.2.2.2 (by decide)
        have mo : MulOk x j := by
          refine ⟨by simp only [Bool.or_eq_false_iff, decide_eq_false_iff_not]; omega, fun _ _ => ?_, fun _ _ => ?_⟩
          · have : (x.length : Int) ≤ (2 ^ 63 - 1) / j := by
              rw [Int.le_ediv_iff_mul_le (by omega)]
              have h1 : ((x.length * j.toNat : Nat) : Int) ≤ 4096 := by exact_mod_cast hc.2.2.2
              have h2 : ((x.length * j.toNat : Nat) : Int) = (x.length : Int) * j := by
                rw [Int.natCast_mul, Int.toNat_of_nonneg (by omega)]
              rw [← h2]
              omega
            omega
          · unfold Builtin.Str.tooLong
            simp only [decide_eq_false_iff_not]
            have : (4096 : Nat) ≤ sizeLine := by decide
            omega
        refine SB.mul mo fun t' k => ?_
        rw [txt_mul hc.1 hc.2.2.1]
        exact ⟨.str _, W.H, I.tok _, ⟨_, rfl⟩, lf.here hs (.str _ ⟨ok, hlen⟩)⟩
      · rw [if_neg hc] at e'; cases e'
    | _ => cases e
  | tup h r => cases rb with
    | int j => simp only [binop, listOf] at e; cases e
    | _ => cases e
  | lst h r => cases rb with
    | int j => exact lists _ j _ (.int j) rfl rfl e
    | _ => cases e
  | ref n hn => cases rb with
    | int j =>
      cases ha : listOf W.st (.ref n) with
      | none => simp only [binop, ha] at e; cases e
      | some xs =>
        refine lists xs j _ (.int j) rfl ha ?_
        simp only [binop, ha] at e
        exact e
    | _ => cases e
  | _ => cases rb <;> first | (cases e; done) | (simp only [binop, listOf] at e; cases e)
theorem op_bin (hK : X.K = G.K) (o : BO) : OpR X (binaryOp o.op) (rBin G o) := by
  cases o with
  | add => exact op_bin_add hK
  | sub => exact op_bin_sub
  | mul => exact op_bin_mul
  | div => exact op_bin_div
  | mod => exact op_bin_mod
  | pow => exact op_bin_pow
def rCmp (G : GX) (o : CO) : R2 := fun x y H Q => ∃ W a b d, W.H = H ∧ SRel G W ∧ Rel G W a x ∧ Rel G W b y ∧ cmpop W.st o a b = some d ∧ Lf G W d W.st Q
theorem eqD_dp {W : Wl} {a b : D} {x y : V} {k : Bool} (s : SRel G W) (ra : Rel G W a x) (rb : Rel G W b y) (e : eqD W.st a b = some k) :
    ∃ d f, Dp G.K W.H x d ∧ Dp G.K W.H y f ∧ SeqAt.shaped d = true ∧ SeqAt.shaped f = true ∧ PyData.eqv d f = k := by
  unfold eqD at e
  cases h1 : look W.st a with
  | none => rw [h1] at e; cases e
  | some d =>
    cases h2 : look W.st b with
    | none => rw [h1, h2] at e; cases e
    | some f =>
      rw [h1, h2] at e
      have e' : (if dep d ≤ 64 ∧ dep f ≤ 64 then some (peq d f) else none) = some k := e
      by_cases hc : dep d ≤ 64 ∧ dep f ≤ 64
      · rw [if_pos hc] at e'
        cases e'
        obtain ⟨p1, q1, c1⟩ := look_dp s ra h1
        obtain ⟨p2, q2, c2⟩ := look_dp s rb h2
        refine ⟨_, _, q1, q2, ?_, ?_, peq_py d f p1 p2⟩
        · unfold SeqAt.shaped; rw [c1, dep_py]; simpa using hc.1
        · unfold SeqAt.shaped; rw [c2, dep_py]; simpa using hc.2
      · rw [if_neg hc] at e'; cases e'
theorem op_cmp_eq (hK : X.K = G.K) (hu : X.A.units + 64 < cLine) : OpR X (compareOp .Eq) (rCmp G .eq) := by
  intro pins s σ H x y v u Q I rx ry h
  obtain ⟨W, a, b, d, rfl, hs, ra, rb, e, lf⟩ := h
  have e' : (eqD W.st a b).map D.bl = some d := e
  cases hk : eqD W.st a b with
  | none => rw [hk] at e'; cases e'
  | some k =>
    rw [hk] at e'
    cases e'
    obtain ⟨d', f, h1, h2, s1, s2, q⟩ := eqD_dp hs ra rb hk
    exact op_eqD hu pins s σ W.H _ _ v u Q I rx ry ⟨d', f, by rw [hK]; exact h1, by rw [hK]; exact h2, s1, s2, by rw [q]; exact lf.here hs (.bl _)⟩
theorem op_cmp_ne (hK : X.K = G.K) (hu : X.A.units + 64 < cLine) : OpR X (compareOp .NotEq) (rCmp G .ne) := by
  intro pins s σ H x y v u Q I rx ry h
  obtain ⟨W, a, b, d, rfl, hs, ra, rb, e, lf⟩ := h
  have e' : (eqD W.st a b).map (fun k => D.bl (!k)) = some d := e
  cases hk : eqD W.st a b with
  | none => rw [hk] at e'; cases e'
  | some k =>
    rw [hk] at e'
    cases e'
    obtain ⟨d', f, h1, h2, s1, s2, q⟩ := eqD_dp hs ra rb hk
    exact op_neD hu pins s σ W.H _ _ v u Q I rx ry ⟨d', f, by rw [hK]; exact h1, by rw [hK]; exact h2, s1, s2, by rw [q]; exact lf.here hs (.bl _)⟩
theorem op_cmp_ord (hK : X.K = G.K) (hu : X.A.units + 64 < cLine) (o : CO) (ho : o = .lt ∨ o = .le ∨ o = .gt ∨ o = .ge) (f : Int → Int → Bool) (k : D → D → Bool) (hi : OpR X (compareOp o.op) (rI0 fun i j => .bl (f i j))) (hf : ∀ st i j, cmpop st o (.int i) (.int j) = some (.bl (f i j)))
    (hn : ∀ st a b, (∀ i j, ¬ (a = .int i ∧ b = .int j)) → cmpop st o a b = ordD st k a b)
    (hd : ∀ {s : Shared} {x y : Value} {dx dy : D} {as bs : List Addr} {E : Value → Shared → Prop} {Q : Value → Shared → Prop}, Reads s.heap x (toPy dx) as → Reads s.heap y (toPy dy) bs → plain dx = true → plain dy = true → alk dx dy = true → toPy dx ≠ .none → X.A.units + min (toPy dx).depth (toPy dy).depth < cLine → Q (.bool (k dx dy)) s → wpAny (model X.prog X.w) X.A (compareOp o.op x y) Q E s) : OpR X (compareOp o.op) (rCmp G o) := by
  intro pins s σ H x y v u Q I rx ry h
  obtain ⟨W, a, b, d, rfl, hs, ra, rb, e, lf⟩ := h
  by_cases hij : ∃ i j, a = .int i ∧ b = .int j
  · obtain ⟨i, j, rfl, rfl⟩ := hij
    cases ra
    cases rb
    rw [hf] at e
    cases e
    exact hi pins s σ W.H _ _ v u Q I rx ry ⟨i, j, rfl, rfl, lf.here hs (.bl _)⟩
  · rw [hn _ _ _ fun i j z => hij ⟨i, j, z⟩] at e
    unfold ordD at e
    cases h1 : look W.st a with
    | none => rw [h1] at e; cases e
    | some d1 =>
      cases h2 : look W.st b with
      | none => rw [h1, h2] at e; cases e
      | some d2 =>
        rw [h1, h2] at e
        have e' : (if alk d1 d2 ∧ isNonB d1 = false ∧ dep d1 ≤ 32 then some (D.bl (k d1 d2)) else none) = some d := e
        split at e'
        · rename_i hc
          cases e'
          obtain ⟨p1, q1, c1⟩ := look_dp hs ra h1
          obtain ⟨p2, q2, c2⟩ := look_dp hs rb h2
          obtain ⟨as, r1⟩ := Dp.reads I (toPy d1) x v (by rw [hK]; exact q1) rx
          obtain ⟨bs, r2⟩ := Dp.reads I (toPy d2) y u (by rw [hK]; exact q2) ry
          refine hd r1 r2 p1 p2 hc.1 (fun z => ?_) ?_ ⟨.bl _, W.H, I, rfl, lf.here hs (.bl _)⟩
          · cases d1 <;> first | (cases p1; done) | (simp [toPy] at z; done) | exact absurd hc.2.1 (by simp [isNonB])
          · have := dep_py d1
            omega
        · cases e'
theorem alk_symm_dlt {a b : D} (pa : plain a = true) (pb : plain b = true) (h : alk a b = true) : PySem.W.dataLt (toPy b) (toPy a) = dlt b a := by
  refine dlt_py b a pb pa ?_
  rw [← alk_py b a pb pa, PySem.W.alike_comm]
  rw [alk_py a b pa pb]
  exact h
theorem ord_none {o : CO} {k : D → D → Bool} (h : (o = .lt ∧ k = fun x y => dlt x y) ∨ (o = .le ∧ k = fun x y => !dlt y x) ∨ (o = .gt ∧ k = fun x y => dlt y x) ∨ (o = .ge ∧ k = fun x y => !dlt x y)) (st : Store) (a b : D) (hij : ∀ i j, ¬ (a = .int i ∧ b = .int j)) : cmpop st o a b = ordD st k a b := by
  rcases h with ⟨rfl, rfl⟩ | ⟨rfl, rfl⟩ | ⟨rfl, rfl⟩ | ⟨rfl, rfl⟩ <;> cases a <;> cases b <;> first | rfl | exact absurd ⟨rfl, rfl⟩ (hij _ _)
theorem eqv_comm_any (ds : List D) (x : D) (hp : plainL ds = true) (hx : plain x = true) : ((toPyL ds).any fun z => PyData.eqv z (toPy x)) = ds.any fun z => peq z x := by
  induction ds with
  | nil => rfl
  | cons d ds ih =>
    have hp' : plain d = true ∧ plainL ds = true := by simpa [plainL] using hp
    simp only [toPyL, List.any_cons, peq_py d x hp'.1 hx, ih hp'.2]
/-- the dict that a datum is -/
theorem dct_at {W : Wl} {d : D} {v : V} {ks : List Str} {ds : List D} (s : SRel G W) (r : Rel G W d v) (h : dctOf W.st d = some (ks, ds)) : ∃ p vs, v = .ref p ∧ Rd W.H p (.dK (zipK ks vs)) ∧ ks.length = ds.length ∧ (∀ k ∈ ks, TxtOk k) ∧ RelL G W ds vs := by
  cases r with
  | dct a l k r => cases h; exact ⟨_, _, rfl, .inr a.1, l, k, r⟩
  | ref n hn =>
    have h' : (match W.st.get n with
      | some (.dct ks vs) => some (ks, vs)
      | _ => none) = some (ks, ds) := h
    cases g : W.st.get n with
    | none => rw [g] at h'; cases h'
    | some o =>
      rw [g] at h'
      cases o with
      | dct _ _ =>
        cases h'
        cases s.ob n _ g with
        | dct a l k r => exact ⟨_, _, rfl, .inl a, l, k, r⟩
      | lst _ => cases h'
      | obj _ _ _ => cases h'
  | _ => cases h
theorem op_cmp_in_dct (neg : Bool) (hu : X.A.units + 65 < cLine) {pins : List (Addr × Obj)} {s : Shared} {σ : L2.St} {W : Wl} {b : D} {k : Str} {ks : List Str} {ds : List D} {y : V} {v u : Value} {Q : VK} (I : Inv X pins σ W.H s) (rx : RelV (.str k) v) (ry : RelV y u) (hs : SRel G W) (rb : Rel G W b y) (e : dctOf W.st b = some (ks, ds))
    (q : Q (.bl (if neg then !decide (k ∈ ks) else decide (k ∈ ks))) W.H) : wpAny (model X.prog X.w) X.A (compareOp (if neg then .NotIn else .In) v u) (EP X pins σ Q) X.xe s := by
  obtain ⟨p, vs, rfl, hp, l, hk, r⟩ := dct_at hs rb e
  have g : DGet W.H p (kV (Sum.inr k)) (valV (zipK ks vs) (Sum.inr k)) := .inl ⟨_, _, hp, rfl, rfl⟩
  have eo := valV_none (x := k) (l.trans r.length)
  cases ry
  cases neg with
  | false => exact d_in (by omega) I g rx fun s' I' => ⟨.bl (decide (k ∈ ks)), W.H, I', by rw [eo] <;> rfl, q⟩
  | true => exact d_notIn (by omega) I g rx fun s' I' => ⟨.bl (!decide (k ∈ ks)), W.H, I', by rw [eo] <;> rfl, q⟩
theorem inD_cases {st : Store} {a b : D} {k : Bool} (hb : ∀ z, b ≠ .str z) (e : inD st a b = some k) : (∃ x0 ks ds, a = .str x0 ∧ dctOf st b = some (ks, ds) ∧ decide (x0 ∈ ks) = k) ∨ (match look st a, look st b with
      | some x, some (.lst ys) => if dep x ≤ 64 ∧ depL ys < 64 then some (ys.any fun z => peq z x) else none
      | some x, some (.tup ys) => if dep x ≤ 64 ∧ depL ys < 64 then some (ys.any fun z => peq z x) else none
      | _, _ => none) = some k := by
  cases b with
  | str z => exact absurd rfl (hb z)
  | dct ks ds => cases a <;> first | exact .inl ⟨_, _, _, rfl, rfl, Option.some.inj e⟩ | cases e
  | ref n =>
    have e3 : (match (generalizing := false) st.get n, a with
      | some (.dct ks _), .str x => some (decide (x ∈ ks))
      | _, _ => match look st a, look st (.ref n) with
        | some x, some (.lst ys) => if dep x ≤ 64 ∧ depL ys < 64 then some (ys.any fun z => peq z x) else none
        | _, _ => none) = some k := e
    clear e
    by_cases hd : ∃ ks ds x0, st.get n = some (.dct ks ds) ∧ a = .str x0
    · obtain ⟨ks, ds, x0, h1, rfl⟩ := hd
      rw [h1] at e3
      refine .inl ⟨x0, ks, ds, rfl, ?_, Option.some.inj e3⟩
      show (match st.get n with
            | some (.dct ks vs) => some (ks, vs)
            | _ => none) = _
      rw [h1]
    · right
      have e4 : (match look st a, look st (.ref n) with
        | some x, some (.lst ys) => if dep x ≤ 64 ∧ depL ys < 64 then some (ys.any fun z => peq z x) else none
        | _, _ => none) = some k := by
        rw [← e3]
        cases h1 : st.get n with
        | none => cases a <;> rfl
        | some o => cases o <;> cases a <;> first | rfl | exact absurd ⟨_, _, _, h1, rfl⟩ hd
      cases h1 : look st a with
      | none => rw [h1] at e4; cases e4
      | some d =>
        cases h2 : look st (.ref n) with
        | none => rw [h1, h2] at e4; cases e4
        | some z =>
          rw [h1, h2] at e4
          cases z <;> first | exact e4 | cases e4
  | _ => exact .inr e
theorem op_cmp_in_gen (neg : Bool) (hK : X.K = G.K) (hu : X.A.units + 65 < cLine) {pins : List (Addr × Obj)} {s : Shared} {σ : L2.St} {W : Wl} {a b : D} {k : Bool} {x y : V} {v u : Value} {Q : VK} (I : Inv X pins σ W.H s) (rx : RelV x v) (ry : RelV y u) (hs : SRel G W) (ra : Rel G W a x) (rb : Rel G W b y) (e : inD W.st a b = some k)
    (q : Q (.bl (if neg then !k else k)) W.H) : wpAny (model X.prog X.w) X.A (compareOp (if neg then .NotIn else .In) v u) (EP X pins σ Q) X.xe s := by
  have seqs : ∀ z : D, look W.st b = some z → ((∃ ys, z = .lst ys) ∨ (∃ ys, z = .tup ys)) → (match look W.st a, look W.st b with
      | some x, some (.lst ys) => if dep x ≤ 64 ∧ depL ys < 64 then some (ys.any fun z => peq z x) else none
      | some x, some (.tup ys) => if dep x ≤ 64 ∧ depL ys < 64 then some (ys.any fun z => peq z x) else none
      | _, _ => none) = some k → wpAny (model X.prog X.w) X.A (compareOp (if neg then .NotIn else .In) v u) (EP X pins σ Q) X.xe s := fun z hz hf h => by
    cases h1 : look W.st a with
    | none => rw [h1] at h; cases h
    | some d =>
      rw [h1, hz] at h
      obtain ⟨p1, q1, c1⟩ := look_dp hs ra h1
      obtain ⟨p2, q2, c2⟩ := look_dp hs rb hz
      rw [← hK] at q1 q2
      obtain ⟨as1, r1⟩ := Dp.reads I _ x v q1 rx
      rcases hf with ⟨ys, rfl⟩ | ⟨ys, rfl⟩
      all_goals
        have h' : (if dep d ≤ 64 ∧ depL ys < 64 then some (ys.any fun z => peq z d) else none) = some k := h
        by_cases hc : dep d ≤ 64 ∧ depL ys < 64
        · rw [if_pos hc] at h'
          cases h'
          have hp : plainL ys = true := by simpa [plain] using p2
          have ea := eqv_comm_any ys d hp p1
          obtain ⟨bs, r2⟩ := Dp.reads I _ y u q2 ry
          have sd : SeqAt.shaped (toPy d) = true := by unfold SeqAt.shaped; rw [c1, dep_py]; simpa using hc.1
          have room := PyProof.Rows.room_in_shaped (xs := toPyL ys) sd hu
          cases neg with
          | false =>
            first
              | exact SeqAt.in_list_reads r2 r1 c2 c1 room ⟨.bl _, W.H, I, rfl, by rw [ea]; exact q⟩
              | exact SeqAt.in_tuple_reads r2 r1 c2 c1 room ⟨.bl _, W.H, I, rfl, by rw [ea]; exact q⟩
          | true =>
            first
              | exact SeqAt.notIn_list_reads r2 r1 c2 c1 room ⟨.bl _, W.H, I, rfl, by rw [ea]; exact q⟩
              | exact SeqAt.notIn_tuple_reads r2 r1 c2 c1 room ⟨.bl _, W.H, I, rfl, by rw [ea]; exact q⟩
        · rw [if_neg hc] at h'; cases h'
  have dicts : ∀ (x0 : Str) (ks : List Str) (ds : List D), a = .str x0 → dctOf W.st b = some (ks, ds) → decide (x0 ∈ ks) = k → wpAny (model X.prog X.w) X.A (compareOp (if neg then .NotIn else .In) v u) (EP X pins σ Q) X.xe s := fun x0 ks ds ea eb ek => by
    subst ea ek
    cases ra
    exact op_cmp_in_dct neg hu I rx ry hs rb eb q
  by_cases hb : ∃ z, b = .str z
  · obtain ⟨z, rfl⟩ := hb
    cases ra with
    | str x hx =>
      cases rb with
      | str _ hz =>
        have e' : (match x.cps.toList with
          | [c] => some (decide (c ∈ z.cps.toList))
          | _ => none) = some k := e
        cases hl : x.cps.toList with
        | nil => rw [hl] at e'; cases e'
        | cons c r =>
          cases r with
          | cons _ _ => rw [hl] at e'; cases e'
          | nil =>
            rw [hl] at e'
            cases e'
            have ex : x = ⟨#[c]⟩ := by
              cases x with
              | mk cps => congr 1; apply Array.toList_inj.mp; rw [hl]
            cases neg with
            | false => exact op_in_sign pins s σ W.H _ _ v u Q I rx ry ⟨c, z, by rw [ex], rfl, q⟩
            | true => exact op_notIn_sign pins s σ W.H _ _ v u Q I rx ry ⟨c, z, by rw [ex], rfl, q⟩
    | _ => cases e
  · have e2 := inD_cases (fun z => fun h => hb ⟨z, h⟩) e
    rcases e2 with ⟨x0, ks, ds, h1, h2, h3⟩ | e2
    · exact dicts x0 ks ds h1 h2 h3
    cases hz : look W.st b with
    | none => rw [hz] at e2; cases h1 : look W.st a <;> rw [h1] at e2 <;> cases e2
    | some z =>
      refine seqs z hz ?_ e2
      rw [hz] at e2
      cases h1 : look W.st a with
      | none => rw [h1] at e2; cases e2
      | some d =>
        rw [h1] at e2
        cases z <;> first | exact .inl ⟨_, rfl⟩ | exact .inr ⟨_, rfl⟩ | cases e2
theorem op_cmp_in (hK : X.K = G.K) (hu : X.A.units + 65 < cLine) : OpR X (compareOp .In) (rCmp G .in_) := by
  intro pins s σ H x y v u Q I rx ry h
  obtain ⟨W, a, b, d, rfl, hs, ra, rb, e, lf⟩ := h
  have e' : (inD W.st a b).map D.bl = some d := e
  cases hk : inD W.st a b with
  | none => rw [hk] at e'; cases e'
  | some k =>
    rw [hk] at e'
    cases e'
    exact op_cmp_in_gen false hK hu I rx ry hs ra rb hk (lf.here hs (.bl _))
theorem op_cmp_notin (hK : X.K = G.K) (hu : X.A.units + 65 < cLine) : OpR X (compareOp .NotIn) (rCmp G .notin) := by
  intro pins s σ H x y v u Q I rx ry h
  obtain ⟨W, a, b, d, rfl, hs, ra, rb, e, lf⟩ := h
  have e' : (inD W.st a b).map (fun k => D.bl (!k)) = some d := e
  cases hk : inD W.st a b with
  | none => rw [hk] at e'; cases e'
  | some k =>
    rw [hk] at e'
    cases e'
    exact op_cmp_in_gen true hK hu I rx ry hs ra rb hk (lf.here hs (.bl _))
theorem op_cmp (hK : X.K = G.K) (hu : X.A.units + 65 < cLine) (o : CO) : OpR X (compareOp o.op) (rCmp G o) := by
  cases o with
  | eq => exact op_cmp_eq hK (by omega)
  | ne => exact op_cmp_ne hK (by omega)
  | lt => exact op_cmp_ord hK (by omega) .lt (.inl rfl) _ (fun x y => dlt x y) op_lt (fun _ _ _ => rfl) (ord_none (.inl ⟨rfl, rfl⟩)) fun r1 r2 p1 p2 h hn hu q => PySem.W.lt_data r1 r2 (by rw [alk_py _ _ p1 p2]; exact h) hn hu (by rw [dlt_py _ _ p1 p2 h]; exact q)
  | le => exact op_cmp_ord hK (by omega) .le (.inr (.inl rfl)) _ (fun x y => !dlt y x) op_le (fun _ _ _ => rfl) (ord_none (.inr (.inl ⟨rfl, rfl⟩))) fun r1 r2 p1 p2 h hn hu q => PySem.W.le_data r1 r2 (by rw [alk_py _ _ p1 p2]; exact h) hn hu (by rw [alk_symm_dlt p1 p2 h]; exact q)
  | gt => exact op_cmp_ord hK (by omega) .gt (.inr (.inr (.inl rfl))) _ (fun x y => dlt y x) op_gt (fun _ _ _ => rfl) (ord_none (.inr (.inr (.inl ⟨rfl, rfl⟩)))) fun r1 r2 p1 p2 h hn hu q => PySem.W.gt_data r1 r2 (by rw [alk_py _ _ p1 p2]; exact h) hn hu (by rw [alk_symm_dlt p1 p2 h]; exact q)
  | ge => exact op_cmp_ord hK (by omega) .ge (.inr (.inr (.inr rfl))) _ (fun x y => !dlt x y) op_ge (fun _ _ _ => rfl) (ord_none (.inr (.inr (.inr ⟨rfl, rfl⟩)))) fun r1 r2 p1 p2 h hn hu q => PySem.W.ge_data r1 r2 (by rw [alk_py _ _ p1 p2]; exact h) hn hu (by rw [dlt_py _ _ p1 p2 h]; exact q)
  | in_ => exact op_cmp_in hK hu
  | notin => exact op_cmp_notin hK hu
  | is_ =>
    intro pins s σ H x y v u Q I rx ry h
    obtain ⟨W, a, b, d, rfl, hs, ra, rb, e, lf⟩ := h
    cases a <;> try (cases e; done)
    cases b <;> try (cases e; done)
    cases e
    cases ra
    cases rb
    exact op_isBl pins s σ W.H _ _ v u Q I rx ry ⟨_, _, rfl, rfl, lf.here hs (.bl _)⟩
  | isnot =>
    intro pins s σ H x y v u Q I rx ry h
    obtain ⟨W, a, b, d, rfl, hs, ra, rb, e, lf⟩ := h
    cases a <;> try (cases e; done)
    cases b <;> try (cases e; done)
    cases e
    cases ra
    cases rb
    exact op_notBl pins s σ W.H _ _ v u Q I rx ry ⟨_, _, rfl, rfl, lf.here hs (.bl _)⟩
end
end OM
namespace OM
open PySem PySem.Spec PyProof.Rows L2
section
variable {prog : Program} {w : World} {A : Around} {E : Value → Shared → Prop} {s : Shared} {r : Addr} {n : Nat} {T : String} {d : Addr} {P : Nat → Value → Prop} {OK : Heap → Prop}
theorem code_tuple_new_kdl {Q₁ : Value → Shared → Prop} (K : PySem.W.KdlSrc prog w T r d n P OK) (hT : s.TypeIs (.ref r) T) (hnt : T ≠ "tuple") (hh : A.handled = none) (hok : OK s.heap) (hn : n ≤ sizeLine)
    (h : ∀ (h' : Heap) (tk : Nat) (acc : Array Value), (∀ b o, s.heap.get? b = some o → h'.get? b = some o) → ItemsOf P acc n →
      Q₁ (.ref h'.objs.size) { s with heap := h'.push { cls := .type "tuple", data := .seq acc }, toks := tk }) :
    codeAny (model prog w) A (.call (.builtin "tuple.__new__") ⟨[.type "tuple", .ref r], []⟩) (wants Q₁ E) s := by
  refine codeAny_of_tree ?_
  show wpAny _ A.in1 (do checkBuiltinCall "tuple.__new__" ⟨[.type "tuple", .ref r], []⟩; again (.builtin "tuple.__new__" ⟨[.type "tuple", .ref r], []⟩)) _ _ s
  refine wpAny_bind (wpAny_of_eq (F.newCall_tuple_1 _) (wpAny_pure ⟨plainId_quiet F.plain_tuple_new _, codeAny_builtin F.entry_tuple_new ?_⟩))
  rw [Around.under_plainId F.plain_tuple_new _]
  have hsub := sub_tuple_self
  have hinit := init_tuple_lookup
  have hmh := madeHere_tuple
  have hh1 : A.in1.handled = none := hh
  have hne : (T == "tuple") = false := by simpa using hnt
  wp_walk using wpAny_typeOf hT, PySem.W.kdu_collect (A := A.in1) K hh1 hok hn
  intro h' tk acc hk hacc
  show wpAny _ _ (Builtin.Tuple.tupleExact acc.toList.toArray >>= fun v => ret v) _ _ _
  unfold Builtin.Tuple.tupleExact
  refine wpAny_bind (wpAny_newObj_type ?_ (by show acc.toList.toArray.size ≤ sizeLine; simp only [Array.toArray_toList]; rw [hacc.1]; exact hn))
  refine wpAny_pure ?_
  have e : acc.toList.toArray = acc := by simp
  rw [e]
  exact h h' tk acc hk hacc
theorem call_tuple_kdl {Q : Value → Shared → Prop} (K : PySem.W.KdlSrc prog w T r d n P OK) (hT : s.TypeIs (.ref r) T) (hnt : T ≠ "tuple") (hh : A.handled = none) (hok : OK s.heap) (hn : n ≤ sizeLine)
    (hQ : ∀ (h' : Heap) (tk : Nat) (acc : Array Value), (∀ b o, s.heap.get? b = some o → h'.get? b = some o) → ItemsOf P acc n →
      Q (.ref h'.objs.size) { s with heap := h'.push { cls := .type "tuple", data := .seq acc }, toks := tk }) :
    wpAny (model prog w) A (call (.type "tuple") [.ref r]) Q E s := by
  refine callType_codes (Q₁ := fun obj s₁ => s₁.TypeIs obj "tuple" ∧ Q obj s₁) F.called_tuple (F.typeCall_tuple_1 _) F.entry_object_init
    (code_tuple_new_kdl (A := A.in1) K hT hnt hh hok hn fun h' tk acc hk hacc => ⟨⟨_, Heap.get?_push_size _ rfl, rfl⟩, hQ h' tk acc hk hacc⟩) fun obj s₁ h₁ => ?_
  exact ⟨h₁.1, F.args_object_init_2 obj _, object_init_meets F.called_tuple.init.lookup F.called_tuple.made (by decide) prog w A.in1 _ s₁ ⟨h₁.1, rfl, h₁.2⟩⟩
end
/-- tuple(d) -/
theorem call_tupleD {X : Cx} (hcalm : X.calm = true) : CallR X (.type "tuple") (fun xs H Q => ∃ (a : Addr) (kvs : List (Key × V)), xs = [.ref a] ∧ Rd H a (.dK kvs) ∧ ∀ p, H p = none → Q (.ref p) (upd H p (.tup (kvs.map fun kv => kV kv.1)))) := by
  intro pins s σ H xs us Q I r q
  obtain ⟨a, kvs, ex, hd, q⟩ := q
  subst ex
  obtain ⟨u, eu, rx⟩ := vals1 r
  subst eu
  cases rx
  obtain ⟨z, lo, vs, rel, dd⟩ := dk_rd I.hok hd
  obtain ⟨ep, hat⟩ := dd.dictAt
  have ek : (kvs.map fun kv => kV kv.1) = vs.map fun p => kV p.1 := by
    have e := congrArg (List.map kV) rel.keys
    rw [List.map_map, List.map_map] at e
    exact e
  refine call_tuple_kdl (PySem.W.kdl_dict (knd := mixKind X.prog X.w) (kvs := vs) (ep := ep) lo) dd.typeIs (by decide) (I.ok.hd hcalm) hat (by rw [← rel.length]; exact z) fun h' tk acc hk hacc => ?_
  have hv : Vals (vs.map fun p => kV p.1) acc.toList := keys_at (by rw [Array.length_toList]; exact hacc.1) fun j v e => hacc.2 j v (by rw [← Array.getElem?_toList]; exact e)
  have I1 : Inv X pins σ H { s with heap := h', toks := tk } := I.kept (t' := tk) hk
  refine ⟨.ref h'.objs.size, upd H h'.objs.size (.tup (kvs.map fun kv => kV kv.1)), I1.laid (t' := tk) (fun b o e => Heap.get?_push_of_some _ e) (Nat.le_refl _)
    (show ObjOk X.prog X.w _ _ _ (.tup (kvs.map fun kv => kV kv.1)) from ⟨by rw [List.length_map]; exact z, acc.toList, by rw [ek]; exact hv, ?_⟩), rfl, q _ (I1.hok.fresh (Nat.le_refl _))⟩
  have e : acc.toList.toArray = acc := by simp
  rw [e]
  exact IsTup.new _ _
end OM
namespace OM
open PySem PySem.Spec L2
section
variable {X : Cx} {G : GX} {W : Wl}
theorem get_lst {st : Store} {n : Nat} {α : Type} {f : List D → Option α} {a : α} (h : (match st.get n with
    | some (.lst xs) => f xs
    | _ => none) = some a) : ∃ xs, st.get n = some (.lst xs) ∧ f xs = some a := by
  cases g : st.get n with
  | none => rw [g] at h; cases h
  | some o =>
    rw [g] at h
    cases o with
    | lst xs => exact ⟨xs, rfl, h⟩
    | dct _ _ => cases h
    | obj _ _ _ => cases h
theorem isEmpty_rel {ds : List D} {vs : List V} (r : RelL G W ds vs) : ds.isEmpty = vs.isEmpty := by cases r <;> rfl
/-- truth -/
theorem truth_v {d : D} {v : V} {k : Bool} (s : SRel G W) (r : Rel G W d v) (h : truth W.st d = some k) : TruV G.K v W.H k := by
  cases r with
  | non => cases h; rfl
  | bl b => cases h; rfl
  | int i => cases h; rfl
  | str x ok =>
    cases h
    refine ⟨ok.2, ?_⟩
    rw [Bool.eq_iff_iff]
    simp
  | tup a r => cases h; exact .inr (.inl ⟨_, a.sq, by rw [isEmpty_rel r]⟩)
  | lst a r => cases h; exact .inl ⟨_, a.sq, by rw [isEmpty_rel r]⟩
  | ref n hn =>
    obtain ⟨xs, g, e⟩ := get_lst (f := fun xs => some (!xs.isEmpty)) h
    cases e
    cases s.ob n _ g with
    | lst a r => exact .inl ⟨_, .inl (.inl a), by rw [isEmpty_rel r]⟩
  | fn _ => cases h
  | scr _ => cases h
  | dct _ _ _ _ => cases h
  | obj _ _ _ => cases h
theorem seqOf_k {d : D} {v : V} {xs : List D} (s : SRel G W) (r : Rel G W d v) (h : seqOf W.st d = some xs) : ∃ p vs, v = .ref p ∧ RelL G W xs vs ∧ (SqL G.K W.H p vs ∨ SqT G.K W.H p vs) := by
  obtain ⟨p, vs, e, r, q⟩ := seq_at s r h
  exact ⟨p, vs, e, r, q.imp (fun z => .inl (.inl z)) _root_.id⟩
theorem ixN_eq (n : Nat) (i : Int) : OM.ixN n i = L2.ixN n i := rfl
def rIdx (G : GX) : R2 := fun x y H Q => ∃ W a b d, W.H = H ∧ SRel G W ∧ Rel G W a x ∧ Rel G W b y ∧ idxD W.st a b = some d ∧ Lf G W d W.st Q
theorem ix_idx (hK : X.K = G.K) (hu : X.A.units + 65 < cLine) : IxR X (rIdx G) := by
  intro value slice pins s σ H x y v u Q I rx ry h hs
  obtain ⟨W, a, b, d, rfl, hs', ra, rb, e, lf⟩ := h
  cases rb with
  | str k hk =>
    have e' : (match dctOf W.st a with
      | some (ks, vs) => lookK ks vs k
      | none => none) = some d := e
    cases hd : dctOf W.st a with
    | none => rw [hd] at e'; cases e'
    | some kv =>
      obtain ⟨ks, ds⟩ := kv
      rw [hd] at e'
      obtain ⟨p, vs, rfl, hp, l, hkk, r⟩ := dct_at hs' ra hd
      obtain ⟨w0, _, h2, rw0⟩ := lookK_zip r e'
      have g : DGet W.H p (kV (Sum.inr k)) (some w0) := .inl ⟨_, _, hp, rfl, h2.symm⟩
      cases rx
      exact PyProof.Rows.tail_any (dict_typeIs I g) PySem.F.slot_dict_getitem.lookup (d_getItem (by omega) I g ry fun w' s' I' rw' => ⟨w0, W.H, I', rw', lf.here hs' rw0⟩) hs
  | int i =>
    have seqs : ∀ xs, seqOf W.st a = some xs → (match OM.ixN xs.length i with
        | some j => xs[j]?
        | none => none) = some d → wpAny (model X.prog X.w) X.A (PyProof.Rows.subscriptTail value slice v u) (EP X pins σ Q) X.xe s := fun xs h1 h2 => by
      obtain ⟨p, vs, rfl, r, hq⟩ := seqOf_k hs' ra h1
      cases hj : OM.ixN xs.length i with
      | none => rw [hj] at h2; cases h2
      | some j =>
        rw [hj] at h2
        obtain ⟨w', hw, rw'⟩ := r.get h2
        have ha : atI vs i = some w' := by
          unfold atI
          rw [← r.length, ← ixN_eq, hj]
          exact hw
        rcases hq with hq | hq
        · exact ix_list value slice pins s σ W.H _ _ v u Q I rx ry ⟨p, vs, i, w', rfl, rfl, by rw [hK]; exact hq, ha, lf.here hs' rw'⟩ hs
        · exact ix_tup value slice pins s σ W.H _ _ v u Q I rx ry ⟨p, vs, i, w', rfl, rfl, by rw [hK]; exact hq, ha, lf.here hs' rw'⟩ hs
    cases ra with
    | str z ok =>
      have e' : (if 0 ≤ i then (z.cps.toList[i.toNat]?).map fun c => D.str ⟨#[c]⟩ else none) = some d := e
      by_cases h0 : 0 ≤ i
      · rw [if_pos h0] at e'
        cases hc : z.cps.toList[i.toNat]? with
        | none => rw [hc] at e'; cases e'
        | some c =>
          rw [hc] at e'
          cases e'
          have hlt : i.toNat < z.cps.toList.length := (List.getElem?_eq_some_iff.mp hc).1
          have hm : c ∈ z.cps.toList := List.mem_of_getElem? hc
          have hz := ok.2
          have ok := ok.1
          have okc : PyData.strOk ⟨#[c]⟩ = true := by
            rw [strOk_mem] at ok ⊢
            intro c' hc'
            simp at hc'
            rw [hc']; exact ok c hm
          have ha : atI z.cps.toList i = some c := by
            unfold atI L2.ixN
            rw [if_pos h0, if_pos (by omega)]
            exact hc
          exact ix_str value slice pins s σ W.H _ _ v u Q I rx ry ⟨z, i, c, rfl, rfl, hz, ha, lf.here hs' (.str _ ⟨okc, by show 1 ≤ sizeLine; decide⟩)⟩ hs
      · rw [if_neg h0] at e'; cases e'
    | tup a r => exact seqs _ rfl e
    | lst a r => exact seqs _ rfl e
    | ref n hn =>
      have e' : (match seqOf W.st (.ref n) with
        | some xs => match OM.ixN xs.length i with
          | some j => xs[j]?
          | none => none
        | none => none) = some d := e
      cases h1 : seqOf W.st (.ref n) with
      | none => rw [h1] at e'; cases e'
      | some xs => rw [h1] at e'; exact seqs xs h1 e'
    | _ => cases e
  | _ => cases e
theorem cut_rel {ds : List D} {vs : List V} (r : RelL G W ds vs) (lo hi : Option Int) : RelL G W (cut ds lo hi) (cutV vs lo hi) := by
  have e : ∀ (n d : Nat) (o : Option Int), OM.sIx n d o = HT.sIx n d o := fun n d o => by cases o <;> rfl
  unfold cut cutV
  rw [r.length, e, e]
  exact (r.drop _).take _
theorem cut_all {α : Type} {xs : List α} {lo hi : Option Int} (h : HT.sIx xs.length 0 lo = 0 ∧ HT.sIx xs.length xs.length hi = xs.length) : cut xs lo hi = xs := by
  have e : ∀ (n d : Nat) (o : Option Int), OM.sIx n d o = HT.sIx n d o := fun n d o => by cases o <;> rfl
  unfold cut
  rw [e, e, h.1, h.2]
  simp
theorem cutT_eq (z : Str) (lo hi : Option Int) : cutT z lo hi = cutS z lo hi := by
  have e : ∀ (n d : Nat) (o : Option Int), OM.sIx n d o = HT.sIx n d o := fun n d o => by cases o <;> rfl
  have hl : z.cps.toList.length = z.length := by rw [Array.length_toList]; rfl
  unfold cutT cutS cut
  rw [e, e, hl]
def rSlc (G : GX) (m : Bool) : V → Option Int → Option Int → Hp → VK → Prop := fun x lo hi H Q => ∃ W a d d' st', W.H = H ∧ SRel G W ∧ Rel G W a x ∧ slcD W.st a lo hi = some d ∧ OM.mk m d W.st = ok d' st' ∧ Lf G W d' st' Q
theorem sl_slc (hK : X.K = G.K) (m : Bool) : SlR X (rSlc G m) := by
  intro pins s σ H x v vl vu lo hi sl Q I rx hs pl pu h
  obtain ⟨W, a, d, d', st', rfl, hs', ra, e, em, lf⟩ := h
  have lists : ∀ xs, listOf W.st a = some xs → d = .lst (cut xs lo hi) → ∃ T id, typeLookup (.type T) "__getitem__" = pure (some (.builtin id)) ∧ s.TypeIs v T ∧ wpAny (model X.prog X.w) X.A (getItem v (.ref sl)) (EP X pins σ Q) X.xe s := fun xs h1 h2 => by
    subst h2
    obtain ⟨p, vs, rfl, hp, r⟩ := list_at hs' ra h1
    exact sl_list pins s σ W.H _ v vl vu lo hi sl Q I rx hs pl pu ⟨p, vs, rfl, .inl (.inl hp), fun l hl => lf.mk em hs' (cut_rel r lo hi) l hl⟩
  cases ra with
  | str z ok =>
    cases e
    cases m with
    | true => cases em
    | false =>
      cases em
      have hz := ok.2
      have ok := ok.1
      have hz' : (cutT z lo hi).length ≤ sizeLine := by
        refine Nat.le_trans ?_ hz
        show ((cut z.cps.toList lo hi).toArray).size ≤ _
        rw [List.size_toArray]
        unfold cut
        rw [List.length_take, List.length_drop, Array.length_toList]
        have e : z.cps.size = z.length := rfl
        omega
      have ok' : PyData.strOk (cutT z lo hi) = true := by
        rw [strOk_mem] at ok ⊢
        intro c hc
        have hc' : c ∈ cut z.cps.toList lo hi := by
          unfold cutT at hc
          simpa using hc
        unfold cut at hc'
        exact ok c (List.mem_of_mem_drop (List.mem_of_mem_take hc'))
      exact sl_str pins s σ W.H _ v vl vu lo hi sl Q I rx hs pl pu ⟨z, rfl, hz, by rw [← cutT_eq]; exact lf.here hs' (.str _ ⟨ok', hz'⟩)⟩
  | tup h r =>
    cases e
    cases m with
    | true => cases em
    | false =>
      cases em
      rename_i p xs vs
      refine sl_tupA pins s σ W.H _ v vl vu lo hi sl Q I rx hs pl pu ⟨p, vs, rfl, by rw [hK]; exact h.sq, fun z => ?_, fun _ l hl => lf.tup hs' (cut_rel r lo hi) l hl⟩
      rw [← r.length] at z
      rw [cut_all z] at lf
      exact lf.here hs' (.tup h r)
  | lst h r => exact lists _ rfl (Option.some.inj e).symm
  | ref n hn =>
    have e' : (match listOf W.st (.ref n) with
      | some xs => some (D.lst (cut xs lo hi))
      | none => none) = some d := e
    cases h1 : listOf W.st (.ref n) with
    | none => rw [h1] at e'; cases e'
    | some xs => rw [h1] at e'; exact lists xs h1 (Option.some.inj e').symm
  | _ => cases e
def Ty.nm : Ty → String
  | .int => "int" | .bool => "bool" | .str => "str" | .tuple => "tuple" | .list => "list" | .none => "NoneType"
/-- the class of a datum -/
theorem ty_of {d : D} {v : V} {t : Ty} {k : Bool} (s : SRel G W) (r : Rel G W d v) (h : isTy W.st d t = some k) : ∃ n, TyX G.K W.H v (.type n) ∧ kitB n t.nm = some k ∧ ∀ t' k', isTy W.st d t' = some k' → kitB n t'.nm = some k' := by
  have fin : ∀ (n : String) (f : Ty → Bool), TyX G.K W.H v (.type n) → (∀ t', isTy W.st d t' = some (f t')) → (∀ t' : Ty, kitB n t'.nm = some (f t')) → ∃ n, TyX G.K W.H v (.type n) ∧ kitB n t.nm = some k ∧ ∀ t' k', isTy W.st d t' = some k' → kitB n t'.nm = some k' := fun n f a b c => by
    refine ⟨n, a, ?_, fun t' k' e => ?_⟩
    · rw [b t] at h; rw [c t]; exact h
    · rw [b t'] at e; rw [c t']; exact e
  cases r with
  | non => exact fin "NoneType" Ty.ofNone (.base .non) (fun _ => rfl) (fun t => by cases t <;> decide +kernel)
  | bl b => exact fin "bool" Ty.ofBool (.base (.bl b)) (fun _ => rfl) (fun t => by cases t <;> decide +kernel)
  | int i => exact fin "int" Ty.ofInt (.base (.int i)) (fun _ => rfl) (fun t => by cases t <;> decide +kernel)
  | str x _ => exact fin "str" Ty.ofStr (.base (.str x)) (fun _ => rfl) (fun t => by cases t <;> decide +kernel)
  | tup a r =>
    refine fin "tuple" Ty.ofTup ?_ (fun _ => rfl) (fun t => by cases t <;> decide +kernel)
    rcases a with ⟨(a | ⟨o, a⟩), _⟩ | ⟨o, its, n, a, c, _⟩
    · exact .base (.tup a)
    · exact .fTuple a
    · exact .kTuple a c
  | lst a r => exact fin "list" Ty.ofLst (.base (.lst a.1)) (fun _ => rfl) (fun t => by cases t <;> decide +kernel)
  | ref n hn =>
    have h' : (match W.st.get n with
      | some (.lst _) => some t.ofLst
      | _ => none) = some k := h
    obtain ⟨xs, g, e⟩ := get_lst (f := fun _ => some t.ofLst) h'
    cases s.ob n _ g with
    | lst a r =>
      refine fin "list" Ty.ofLst (.base (.lst a)) (fun t' => ?_) (fun t => by cases t <;> decide +kernel)
      show (match W.st.get n with
        | some (.lst _) => some t'.ofLst
        | _ => none) = _
      rw [g]
  | fn _ => cases h
  | scr _ => cases h
  | dct _ _ _ _ => cases h
  | obj _ _ _ => cases h
theorem isTys_kit {d : D} {n : String} : ∀ {ts : List Ty} {k : Bool}, (∀ t' k', isTy W.st d t' = some k' → kitB n t'.nm = some k') → isTys W.st d ts = some k → PySem.W.kitAny G.K (.type n) (ts.map fun t => .type t.nm) = some k
  | [], k, _, h => by cases h; exact kitAny_nil
  | t :: ts, k, H, h => by
    have h' : (match isTy W.st d t with
      | none => none
      | some true => some true
      | some false => isTys W.st d ts) = some k := h
    cases e : isTy W.st d t with
    | none => rw [e] at h'; cases h'
    | some b =>
      rw [e] at h'
      have q := kit_ty (K := G.K) (H t b e)
      cases b with
      | true => cases h'; exact kitAny_cons (b := true) q (fun z => by cases z) fun _ => rfl
      | false => exact kitAny_cons (b := false) q (fun _ => isTys_kit H h') fun z => by cases z
def rBi (G : GX) (m : Bool) (f : Bi) : List V → Hp → VK → Prop := fun vs H Q => ∃ W ds d d' st', W.H = H ∧ SRel G W ∧ RelL G W ds vs ∧ biF W.st f ds = some d ∧ OM.mk m d W.st = ok d' st' ∧ Lf G W d' st' Q
theorem mk_flat {m : Bool} {d d' : D} {st st' : Store} (h : ∀ xs, d ≠ .lst xs) (e : OM.mk m d st = ok d' st') (h2 : ∀ ks vs, d ≠ .dct ks vs := by intro _ _ z; cases z) : d' = d ∧ st' = st := by
  cases m with
  | false => cases e; exact ⟨rfl, rfl⟩
  | true => cases d <;> first | exact absurd rfl (h _) | exact absurd rfl (h2 _ _) | cases e
theorem one_of {f : Bi} {ds : List D} {d : D} {st : Store} (h : biF st f ds = some d) (hf : f = .len ∨ f = .all ∨ f = .any ∨ f = .tuple ∨ f = .list ∨ f = .sum ∨ f = .int ∨ f = .sortset ∨ f = .lenset) : ∃ a, ds = [a] := by
  rcases hf with rfl | rfl | rfl | rfl | rfl | rfl | rfl | rfl | rfl <;>
  · match ds with
    | [] => cases h
    | [a] => exact ⟨a, rfl⟩
    | a :: b :: r => cases a <;> cases h
theorem bools_rel : ∀ {ds : List D} {vs : List V} {bs : List Bool}, RelL G W ds vs → boolsOf ds = some bs → vs = bs.map V.bl
  | _, _, _, .nil, h => by cases h; rfl
  | d :: ds, _, bs, .cons h r, e => by
    cases h with
    | bl b =>
      have e' : (boolsOf ds).map (b :: ·) = some bs := e
      cases q : boolsOf ds with
      | none => rw [q] at e'; cases e'
      | some r' => rw [q] at e'; cases e'; rw [bools_rel r q]; rfl
    | _ => cases e
theorem ints_rel : ∀ {ds : List D} {vs : List V} {bs : List Int}, RelL G W ds vs → intsOf ds = some bs → vs = bs.map V.int
  | _, _, _, .nil, h => by cases h; rfl
  | d :: ds, _, bs, .cons h r, e => by
    cases h with
    | int b =>
      have e' : (intsOf ds).map (b :: ·) = some bs := e
      cases q : intsOf ds with
      | none => rw [q] at e'; cases e'
      | some r' => rw [q] at e'; cases e'; rw [ints_rel r q]; rfl
    | _ => cases e
theorem strs_rel : ∀ {ds : List D} {vs : List V} {bs : List Str}, RelL G W ds vs → strsOf ds = some bs → vs = bs.map V.str ∧ ∀ x ∈ bs, TxtOk x
  | _, _, _, .nil, h => by cases h; exact ⟨rfl, fun _ z => by cases z⟩
  | d :: ds, _, bs, .cons h r, e => by
    cases h with
    | str b ok =>
      have e' : (strsOf ds).map (b :: ·) = some bs := e
      cases q : strsOf ds with
      | none => rw [q] at e'; cases e'
      | some r' =>
        rw [q] at e'
        cases e'
        obtain ⟨h1, h2⟩ := strs_rel r q
        refine ⟨by rw [h1]; rfl, fun x hx => ?_⟩
        rcases List.mem_cons.mp hx with z | z
        · rw [z]; exact ok
        · exact h2 x z
    | _ => cases e
theorem bi_len (hK : X.K = G.K) (m : Bool) : CallR X (.builtin "len") (rBi G m .len) := by
  intro pins s σ H xs us Q I r h
  obtain ⟨W, ds, d, d', st', rfl, hs, rd, e, em, lf⟩ := h
  obtain ⟨a, rfl⟩ := one_of e (.inl rfl)
  cases rd with
  | cons ra rn =>
    cases rn
    have seqs : ∀ xs, seqOf W.st a = some xs → d = .int xs.length → wpAny (model X.prog X.w) X.A (call (.builtin "len") us) (EP X pins σ Q) X.xe s := fun xs h1 h2 => by
      subst h2
      obtain ⟨rfl, rfl⟩ := mk_flat (fun _ z => by cases z) em
      obtain ⟨p, vs, rfl, rr, hq⟩ := seqOf_k hs ra h1
      exact call_len_seq pins s σ W.H _ us Q I r ⟨p, vs, rfl, by rw [hK]; exact hq, by rw [← rr.length]; exact lf.here hs (.int _)⟩
    by_cases hstr : ∃ x, a = .str x
    · obtain ⟨x, rfl⟩ := hstr
      cases e
      obtain ⟨rfl, rfl⟩ := mk_flat (fun _ z => by cases z) em
      cases ra with
      | str _ ok => exact call_len pins s σ W.H _ us Q I r ⟨.str x, x.length, rfl, ⟨ok.2, rfl⟩, lf.here hs (.int _)⟩
    · by_cases hdct : ∃ ks vs, a = .dct ks vs
      · obtain ⟨ks, ds, rfl⟩ := hdct
        cases e
        obtain ⟨rfl, rfl⟩ := mk_flat (fun _ z => by cases z) em
        obtain ⟨p, vs, rfl, hp, l, hk, rr⟩ := dct_at hs ra rfl
        obtain ⟨u, eu, rx⟩ := vals1 r
        subst eu
        cases rx
        have hz : (zipK ks vs).length = ks.length := by unfold zipK; rw [List.length_zip, List.length_map, ← rr.length, ← l]; exact Nat.min_self _
        refine d_len I hp fun t s' I' => ⟨.int ks.length, W.H, I', ⟨t, by rw [hz]⟩, lf.here hs (.int _)⟩
      have e' : (seqOf W.st a).map (fun xs => D.int xs.length) = some d := by
        rw [← e]
        cases a <;> first | rfl | exact absurd ⟨_, rfl⟩ hstr | exact absurd ⟨_, _, rfl⟩ hdct
      cases h1 : seqOf W.st a with
      | none => rw [h1] at e'; cases e'
      | some xs => rw [h1] at e'; exact seqs xs h1 (Option.some.inj e').symm
theorem bi_all (hK : X.K = G.K) (hc : X.calm = true) (m : Bool) : CallR X (.builtin "all") (rBi G m .all) := by
  intro pins s σ H xs us Q I r h
  obtain ⟨W, ds, d, d', st', rfl, hs, rd, e, em, lf⟩ := h
  obtain ⟨a, rfl⟩ := one_of e (.inr (.inl rfl))
  cases rd with
  | cons ra rn =>
    cases rn
    have e' : (match listOf W.st a with
      | some xs => (boolsOf xs).map fun bs => D.bl (bs.all _root_.id)
      | none => none) = some d := e
    cases h1 : listOf W.st a with
    | none => rw [h1] at e'; cases e'
    | some xs =>
      rw [h1] at e'
      have e2 : (boolsOf xs).map (fun bs => D.bl (bs.all _root_.id)) = some d := e'
      obtain ⟨p, vs, rfl, hp, rr⟩ := list_at hs ra h1
      cases hb : boolsOf xs with
      | none => rw [hb] at e2; cases e2
      | some bs =>
        rw [hb] at e2
        cases e2
        obtain ⟨rfl, rfl⟩ := mk_flat (fun _ z => by cases z) em
        rw [bools_rel rr hb] at hp
        exact cr_all hc pins s σ W.H _ us Q I r ⟨p, bs, rfl, .inl (.inl hp), lf.here hs (.bl _)⟩
theorem bi_any (hK : X.K = G.K) (hc : X.calm = true) (m : Bool) : CallR X (.builtin "any") (rBi G m .any) := by
  intro pins s σ H xs us Q I r h
  obtain ⟨W, ds, d, d', st', rfl, hs, rd, e, em, lf⟩ := h
  obtain ⟨a, rfl⟩ := one_of e (.inr (.inr (.inl rfl)))
  cases rd with
  | cons ra rn =>
    cases rn
    have e' : (match listOf W.st a with
      | some xs => (boolsOf xs).map fun bs => D.bl (bs.any _root_.id)
      | none => none) = some d := e
    cases h1 : listOf W.st a with
    | none => rw [h1] at e'; cases e'
    | some xs =>
      rw [h1] at e'
      have e2 : (boolsOf xs).map (fun bs => D.bl (bs.any _root_.id)) = some d := e'
      obtain ⟨p, vs, rfl, hp, rr⟩ := list_at hs ra h1
      cases hb : boolsOf xs with
      | none => rw [hb] at e2; cases e2
      | some bs =>
        rw [hb] at e2
        cases e2
        obtain ⟨rfl, rfl⟩ := mk_flat (fun _ z => by cases z) em
        rw [bools_rel rr hb] at hp
        exact cr_any hc pins s σ W.H _ us Q I r ⟨p, bs, rfl, .inl (.inl hp), lf.here hs (.bl _)⟩
theorem bi_sum (hK : X.K = G.K) (hc : X.calm = true) (m : Bool) : CallR X (.builtin "sum") (rBi G m .sum) := by
  intro pins s σ H xs us Q I r h
  obtain ⟨W, ds, d, d', st', rfl, hs, rd, e, em, lf⟩ := h
  obtain ⟨a, rfl⟩ := one_of e (.inr (.inr (.inr (.inr (.inr (.inl rfl))))))
  cases rd with
  | cons ra rn =>
    cases rn
    have e' : (match listOf W.st a with
      | some xs => (intsOf xs).map fun ns => D.int ns.sum
      | none => none) = some d := e
    cases h1 : listOf W.st a with
    | none => rw [h1] at e'; cases e'
    | some xs =>
      rw [h1] at e'
      have e2 : (intsOf xs).map (fun ns => D.int ns.sum) = some d := e'
      obtain ⟨p, vs, rfl, hp, rr⟩ := list_at hs ra h1
      cases hb : intsOf xs with
      | none => rw [hb] at e2; cases e2
      | some bs =>
        rw [hb] at e2
        cases e2
        obtain ⟨rfl, rfl⟩ := mk_flat (fun _ z => by cases z) em
        rw [ints_rel rr hb] at hp
        exact cr_sum hc pins s σ W.H _ us Q I r ⟨p, bs, rfl, .inl (.inl hp), lf.here hs (.int _)⟩
theorem zipK_keys {ks : List Str} {vs : List V} (h : ks.length = vs.length) : ((zipK ks vs).map fun kv => kV kv.1) = ks.map V.str := by
  unfold zipK
  induction ks generalizing vs with
  | nil => rfl
  | cons k ks ih =>
    cases vs with
    | nil => cases h
    | cons v vs =>
      show kV (Sum.inr k) :: _ = V.str k :: _
      rw [← ih (by simpa using h)] <;> rfl
theorem strs_rl {ks : List Str} (h : ∀ k ∈ ks, TxtOk k) : RelL G W (ks.map D.str) (ks.map V.str) := by
  induction ks with
  | nil => exact .nil
  | cons k ks ih => exact .cons (.str k (h k (List.mem_cons_self ..))) (ih fun z hz => h z (List.mem_cons_of_mem _ hz))
theorem bi_tuple (hK : X.K = G.K) (hc : X.calm = true) (m : Bool) : CallR X (.type "tuple") (rBi G m .tuple) := by
  intro pins s σ H xs us Q I r h
  obtain ⟨W, ds, d, d', st', rfl, hs, rd, e, em, lf⟩ := h
  obtain ⟨a, rfl⟩ := one_of e (.inr (.inr (.inr (.inl rfl))))
  cases rd with
  | cons ra rn =>
    cases rn
    by_cases hdct : ∃ ks vs, a = .dct ks vs
    · obtain ⟨ks, ds, rfl⟩ := hdct
      cases e
      obtain ⟨rfl, rfl⟩ := mk_flat (fun _ z => by cases z) em
      obtain ⟨p, vs, rfl, hp, l, hk, rr⟩ := dct_at hs ra rfl
      exact call_tupleD hc pins s σ W.H _ us Q I r ⟨p, _, rfl, hp, fun q hq => by rw [zipK_keys (l.trans rr.length)]; exact lf.tup hs (strs_rl hk) q hq⟩
    have e' : (seqOf W.st a).map D.tup = some d := by
      rw [← e]
      cases a <;> first | rfl | exact absurd ⟨_, _, rfl⟩ hdct
    cases h1 : seqOf W.st a with
    | none => rw [h1] at e'; cases e'
    | some xs =>
      rw [h1] at e'
      cases e'
      obtain ⟨rfl, rfl⟩ := mk_flat (fun _ z => by cases z) em
      by_cases ht : ∃ ys, a = .tup ys
      · obtain ⟨ys, rfl⟩ := ht
        cases h1
        cases ra with
        | tup q rr => exact call_tuple_of pins s σ W.H _ us Q I r ⟨_, _, rfl, .inr ⟨by rw [hK]; exact q.sq, lf.here hs (.tup q rr)⟩⟩
      · have h2 : listOf W.st a = some xs := by
          rw [← h1]
          cases a <;> first | rfl | exact absurd ⟨_, rfl⟩ ht
        obtain ⟨p, vs, rfl, hp, rr⟩ := list_at hs ra h2
        exact call_tuple_of pins s σ W.H _ us Q I r ⟨p, vs, rfl, .inl ⟨.inl (.inl hp), fun l hl => lf.tup hs rr l hl⟩⟩
theorem bi_list (hK : X.K = G.K) (hc : X.calm = true) (m : Bool) : CallR X (.type "list") (rBi G m .list) := by
  intro pins s σ H xs us Q I r h
  obtain ⟨W, ds, d, d', st', rfl, hs, rd, e, em, lf⟩ := h
  obtain ⟨a, rfl⟩ := one_of e (.inr (.inr (.inr (.inr (.inl rfl)))))
  cases rd with
  | cons ra rn =>
    cases rn
    by_cases hdct : ∃ ks vs, a = .dct ks vs
    · obtain ⟨ks, ds, rfl⟩ := hdct
      cases e
      obtain ⟨p, vs, rfl, hp, l, hk, rr⟩ := dct_at hs ra rfl
      exact call_listD hc pins s σ W.H _ us Q I r ⟨p, _, rfl, hp, fun q hq => by rw [zipK_keys (l.trans rr.length)]; exact lf.mk em hs (strs_rl hk) q hq⟩
    have e' : (seqOf W.st a).map D.lst = some d := by
      rw [← e]
      cases a <;> first | rfl | exact absurd ⟨_, _, rfl⟩ hdct
    cases h1 : seqOf W.st a with
    | none => rw [h1] at e'; cases e'
    | some xs =>
      rw [h1] at e'
      cases e'
      obtain ⟨p, vs, rfl, rr, hq⟩ := seqOf_k hs ra h1
      exact call_list_of pins s σ W.H _ us Q I r ⟨p, vs, rfl, by rw [hK]; exact hq, fun l hl => lf.mk em hs rr l hl⟩
theorem bi_int (m : Bool) : CallR X (.type "int") (rBi G m .int) := by
  intro pins s σ H xs us Q I r h
  obtain ⟨W, ds, d, d', st', rfl, hs, rd, e, em, lf⟩ := h
  obtain ⟨a, rfl⟩ := one_of e (.inr (.inr (.inr (.inr (.inr (.inr (.inl rfl)))))))
  cases rd with
  | cons ra rn =>
    cases rn
    cases ra with
    | int i =>
      cases e
      obtain ⟨rfl, rfl⟩ := mk_flat (fun _ z => by cases z) em
      exact call_int1 pins s σ W.H _ us Q I r (.inl ⟨i, rfl, lf.here hs (.int _)⟩)
    | bl b =>
      cases e
      obtain ⟨rfl, rfl⟩ := mk_flat (fun _ z => by cases z) em
      exact call_int1 pins s σ W.H _ us Q I r (.inr ⟨b, rfl, lf.here hs (.int _)⟩)
    | _ => cases e
theorem bi_str (m : Bool) : CallR X (.type "str") (rBi G m .str) := by
  intro pins s σ H xs us Q I r h
  obtain ⟨W, ds, d, d', st', rfl, hs, rd, e, em, lf⟩ := h
  cases rd with
  | nil => cases e
  | cons ra rn =>
    cases rn with
    | cons rb rn => cases ra <;> cases e
    | nil =>
      cases ra with
      | int i =>
        have e' : (if i.natAbs.log2 < 1920 ∧ (PySem.Str.ofString (toString i)).cps.all (· < 128) = true ∧ (PySem.Str.ofString (toString i)).length ≤ 1000000 then some (D.str (PySem.Str.ofString (toString i))) else none) = some d := e
        by_cases hz : i.natAbs.log2 < 1920 ∧ (PySem.Str.ofString (toString i)).cps.all (· < 128) = true ∧ (PySem.Str.ofString (toString i)).length ≤ 1000000
        · rw [if_pos hz] at e'
          cases e'
          obtain ⟨rfl, rfl⟩ := mk_flat (fun _ z => by cases z) em
          exact call_str_int pins s σ W.H _ us Q I r ⟨i, rfl, hz.1, lf.here hs (.str _ ⟨strOk_mem.mpr fun c hc => by
            have h2 := hz.2.1
            rw [← Array.all_toList, List.all_eq_true] at h2
            have := h2 c hc
            simp only [decide_eq_true_eq] at this
            omega, Nat.le_trans hz.2.2 (by decide)⟩)⟩
        · rw [if_neg hz] at e'; cases e'
      | bl b =>
        cases e
        obtain ⟨rfl, rfl⟩ := mk_flat (fun _ z => by cases z) em
        obtain ⟨u, rfl, r1⟩ := vals1 r
        cases r1
        exact PySem.P.str_of_bool ⟨.str _, W.H, I.tok _, ⟨_, rfl⟩, lf.here hs (.str _ (by cases b <;> exact ⟨by decide +kernel, by decide +kernel⟩))⟩
      | _ => cases e
theorem two_of {f : Bi} {ds : List D} {d : D} {st : Store} (h : biF st f ds = some d) (hf : f = .min2 ∨ f = .max2) : ∃ i j, ds = [.int i, .int j] := by
  rcases hf with rfl | rfl <;>
  · match ds with
    | [] => cases h
    | [a] => cases a <;> cases h
    | a :: b :: r => cases a <;> cases b <;> cases r <;> first | exact ⟨_, _, rfl⟩ | cases h
theorem bi_min2 (hc : X.calm = true) (m : Bool) : CallR X (.builtin "min") (rBi G m .min2) := by
  intro pins s σ H xs us Q I r h
  obtain ⟨W, ds, d, d', st', rfl, hs, rd, e, em, lf⟩ := h
  obtain ⟨i, j, rfl⟩ := two_of e (.inl rfl)
  cases e
  obtain ⟨rfl, rfl⟩ := mk_flat (fun _ z => by cases z) em
  cases rd with
  | cons ra rn => cases rn with
    | cons rb rn =>
      cases rn
      cases ra
      cases rb
      exact call_min2 hc pins s σ W.H _ us Q I r ⟨i, j, rfl, lf.here hs (.int _)⟩
theorem bi_max2 (hc : X.calm = true) (m : Bool) : CallR X (.builtin "max") (rBi G m .max2) := by
  intro pins s σ H xs us Q I r h
  obtain ⟨W, ds, d, d', st', rfl, hs, rd, e, em, lf⟩ := h
  obtain ⟨i, j, rfl⟩ := two_of e (.inr rfl)
  cases e
  obtain ⟨rfl, rfl⟩ := mk_flat (fun _ z => by cases z) em
  cases rd with
  | cons ra rn => cases rn with
    | cons rb rn =>
      cases rn
      cases ra
      cases rb
      exact call_max2 hc pins s σ W.H _ us Q I r ⟨i, j, rfl, lf.here hs (.int _)⟩
end
end OM
namespace OM
open PySem PySem.Spec PyProof.Rows L2
/-- the text of an entry -/
def txtOf (e : Int × Value) : Str := match e.2 with
  | .str x _ => x
  | _ => Str.empty
def GoodT (P : Program) (w : World) (e : Int × Value) : Prop := ∃ x t, e.2 = Value.str x t ∧ e.1 = (PySem.strKind P w).hash x
/-- at a stands a set whose members are the texts of L -/
def SetT (P : Program) (w : World) (h : Heap) (a : Addr) (L : List Str) : Prop :=
  ∃ o es ep tb, h.get? a = some o ∧ o.ExactSet ∧ o.data = .set es ep tb ∧ (∀ e ∈ es.toList, GoodT P w e) ∧ (es.toList.map txtOf).Perm L ∧ L.Nodup ∧
    es.size < scanBound ∧ tb.fits es.size = true ∧ Ris tb.place.toList ∧ (w.params.followText "set-order" = true ∨ tb.led = true)
section
variable {P : Program} {w : World} {h h' : Heap} {a : Addr} {L : List Str}
theorem SetT.at (R : SetT P w h a L) (k : ∀ o, h.get? a = some o → h'.get? a = some o) : SetT P w h' a L := by
  obtain ⟨o, es, ep, tb, ho, r⟩ := R
  exact ⟨o, es, ep, tb, k o ho, r⟩
theorem goodT_elems {l : List (Int × Value)} (g : ∀ e ∈ l, GoodT P w e) : ElemsOf (PySem.strKind P w) l := by
  intro e he
  obtain ⟨x, t, h1, h2⟩ := g e he
  rw [h1]
  exact ⟨⟨x, strKind_is P w x t, h2⟩, rfl⟩
theorem goodT_is {e : Int × Value} (g : GoodT P w e) (x : Str) : (PySem.strKind P w).is x e.2 = true ↔ txtOf e = x := by
  obtain ⟨y, t, h1, _⟩ := g
  have e1 : txtOf e = y := by unfold txtOf; rw [h1]
  rw [e1]
  constructor
  · intro q
    rw [h1] at q
    exact (PySem.strKind P w).inj _ _ _ (strKind_is P w y t) q
  · intro q
    rw [h1, ← q]
    exact strKind_is P w y t
end
/-- one more text -/
def grow (L : List Str) (x : Str) : List Str := if x ∈ L then L else L ++ [x]
section
variable {P : Program} {w : World} {A : Around} {E : Value → Shared → Prop} {s : Shared} {a : Addr} {L : List Str}
theorem put_at {h : Heap} {o : Obj} {es es' : Array (Int × Value)} {ep : Nat} {t t' : SetTable} (ho : h.get? a = some o) (hd : o.data = .set es ep t) :
    (h.update a (Obj.putSet es' t')).get? a = some { o with data := .set es' (ep + 1) t' } := L2.store_at ho hd
theorem setT_tail {g : Bool → Sem Unit} (hg : ∀ (b : Bool) (s1 : Shared) (Q1 : Unit → Shared → Prop), Q1 () s1 → wpAny (model P w) A (g b) Q1 E s1)
    {o : Obj} {es : Array (Int × Value)} {ep : Nat} {t : SetTable} (ho : s.heap.get? a = some o) (hex : o.ExactSet) (hd : o.data = .set es ep t)
    {es1 : Array (Int × Value)} {t2 : SetTable} {L' : List Str} (g1 : ∀ e ∈ es1.toList, GoodT P w e) (pm1 : (es1.toList.map txtOf).Perm L') (nd : L'.Nodup)
    (hb1 : es1.size < scanBound) (hf2 : t2.fits es1.size = true) (hr : Ris t2.place.toList) (hl : w.params.followText "set-order" = true ∨ t2.led = true) {wasDummy : Bool} {R : Option Bool → Shared → Prop}
    (hR : ∀ h', Heap.SameBut a s.heap h' → SetT P w h' a L' → R (some true) { s with heap := h' }) :
    wpAny (model P w) A (do
        storeSet a es1 t2
        if (!wasDummy && t2.tooFull) = true then do
            g (relayAll t2 es1 (SetTable.grown es1.size)).2.2
            storeSet a (relayAll t2 es1 (SetTable.grown es1.size)).1 (relayAll t2 es1 (SetTable.grown es1.size)).2.1
            pure (some true)
          else pure (some true)) R E s := by
  refine wpAny_bind (wpAny_storeSet_of ho hd ?_ (fits_of_scanBound hb1))
  have at1 := put_at (es' := es1) (t' := t2) ho hd
  have same1 := Heap.SameBut.update s.heap a (Obj.putSet es1 t2)
  by_cases full : (!wasDummy && t2.tooFull) = true
  · rw [if_pos full]
    have pm := relayAll_perm t2 es1 (SetTable.grown es1.size)
    have ft := relayAll_fits t2 es1 (SetTable.grown es1.size)
    have rs := L2.relayAll_ris t2 es1 (SetTable.grown es1.size)
    have ld := L2.relayAll_led t2 es1 (SetTable.grown es1.size)
    revert pm ft rs ld
    generalize relayAll t2 es1 (SetTable.grown es1.size) = Z
    intro pm ft rs ld
    have sz : Z.1.size = es1.size := by rw [← Array.length_toList, pm.length_eq, Array.length_toList]
    have hb2 : Z.1.size < scanBound := by rw [sz]; exact hb1
    refine wpAny_bind (hg _ _ _ ?_)
    refine wpAny_bind (wpAny_storeSet_of at1 rfl ?_ (fits_of_scanBound hb2))
    have at2 := put_at (es' := Z.1) (t' := Z.2.1) at1 rfl
    refine wpAny_pure (hR _ (same1.trans (Heap.SameBut.update _ a _)) ⟨_, Z.1, _, Z.2.1, at2, hex, rfl, fun e he => g1 e (pm.mem_iff.mp he), (pm.map txtOf).trans pm1, nd, hb2, ft, rs, ?_⟩)
    rcases hl with z | z
    · exact .inl z
    · exact .inr (ld.trans z)
  · rw [if_neg full]
    exact wpAny_pure (hR _ same1 ⟨_, es1, _, t2, at1, hex, rfl, g1, pm1, nd, hb1, hf2, hr, hl⟩)
theorem setT_add {x : Str} {tk : Tok} {Q : Bool → Shared → Prop} (R : SetT P w s.heap a L) (room : L.length + 1 < scanBound)
    (hQ : ∀ h', Heap.SameBut a s.heap h' → SetT P w h' a (grow L x) → Q (!decide (x ∈ L)) { s with heap := h' }) :
    wpAny (model P w) A (setAddHashed a (.str x tk) ((PySem.strKind P w).hash x)) Q E s := by
  obtain ⟨o, es, ep, t, ho, hex, hd, g, pm0, nd, hb, hf, hr, hl⟩ := R
  have kx : (PySem.strKind P w).is x (.str x tk) = true := strKind_is P w x tk
  have sc : (Value.str x tk).scannable = true := rfl
  have el : ElemsOf (PySem.strKind P w) es.toList := goodT_elems g
  unfold setAddHashed setAddHashedIn
  refine wpAny_holding (wpAny_bind (wpAny_setState_of ho hd hf ?_))
  dsimp only
  rw [byScan_of sc hb el]
  simp only [↓reduceIte]
  unfold setAddByScan
  refine wpAny_bind ?_
  refine wpAny_bind (wpAny_rule ?_)
  refine wpAny_bind (wpAny_setScan_of kx ho hd hf el ?_)
  cases fi : List.findIdx? (fun e => (PySem.strKind P w).is x e.2) es.toList with
  | some j =>
    dsimp only
    obtain ⟨hj, pj, _⟩ := List.findIdx?_eq_some_iff_getElem.mp fi
    have hm : x ∈ L := pm0.mem_iff.mp (List.mem_map.mpr ⟨es.toList[j], List.getElem_mem hj, (goodT_is (g _ (List.getElem_mem hj)) x).1 pj⟩)
    refine wpAny_pure (wpAny_pure ?_)
    have q := hQ s.heap (Heap.SameBut.refl a s.heap) (by
      unfold grow
      rw [if_pos hm]
      exact ⟨o, es, ep, t, ho, hex, hd, g, pm0, nd, hb, hf, hr, hl⟩)
    rw [decide_eq_true hm] at q
    exact q
  | none =>
    dsimp only
    have hm : x ∉ L := fun z => by
      obtain ⟨e, he, q⟩ := List.mem_map.mp (pm0.mem_iff.mpr z)
      have c := List.findIdx?_eq_none_iff.mp fi e he
      rw [(goodT_is (g e he) x).2 q] at c
      cases c
    have gw : ∀ (b : Bool) {s1 : Shared} {Q1 : Unit → Shared → Prop}, Q1 () s1 → wpAny (model P w) A (match b with | true => rule "set.scan.the-table-gave-way" | false => pure ()) Q1 E s1 := by
      intro b s1 Q1 q
      cases b with
      | true => exact wpAny_rule q
      | false => exact wpAny_pure q
    have pm := layNew_perm t es ((PySem.strKind P w).hash x) (.str x tk)
    have ft := layNew_fits t es ((PySem.strKind P w).hash x) (.str x tk)
    have rs := L2.layNew_ris t es ((PySem.strKind P w).hash x) (.str x tk) hr
    have ld := L2.layNew_led t es ((PySem.strKind P w).hash x) (.str x tk)
    generalize layNew t es ((PySem.strKind P w).hash x) (.str x tk) = Z at pm ft rs ld ⊢
    obtain ⟨es1, t1, wasDummy, gave⟩ := Z
    dsimp only at pm ft rs ld ⊢
    rw [Array.toList_push] at pm
    have g1 : ∀ e ∈ es1.toList, GoodT P w e := fun e he => by
      rcases List.mem_append.mp (pm.mem_iff.mp he) with z | z
      · exact g e z
      · rw [List.mem_singleton.mp z]; exact ⟨x, tk, rfl, rfl⟩
    have pk : (es1.toList.map txtOf).Perm (L ++ [x]) := by
      have q := pm.map txtOf
      rw [List.map_append] at q
      exact q.trans (pm0.append_right _)
    have nd1 : (L ++ [x]).Nodup := by
      rw [List.nodup_append]
      refine ⟨nd, by simp, fun y hy z hz => ?_⟩
      rw [List.mem_singleton.mp hz]
      exact fun q => hm (q ▸ hy)
    have sz : es1.size = L.length + 1 := by
      have q := pk.length_eq
      rw [List.length_map, Array.length_toList, List.length_append] at q
      exact q
    have hb1 : es1.size < scanBound := by rw [sz]; exact room
    have led : w.params.followText "set-order" = true ∨ t1.led = true := by
      rcases hl with z | z
      · exact .inl z
      · exact .inr (ld.trans z)
    have fin : ∀ h', Heap.SameBut a s.heap h' → SetT P w h' a (L ++ [x]) → Q true { s with heap := h' } := fun h' sb r => by
      have q := hQ h' sb (by unfold grow; rw [if_neg hm]; exact r)
      rw [decide_eq_false hm] at q
      exact q
    refine wpAny_bind (gw _ ?_)
    split
    · refine wpAny_bind ?_
      rw [hashByValue_scannable 8 sc]
      refine wpAny_pure ?_
      refine setT_tail ?_ ho hex hd g1 pk nd1 hb1 ?_ ?_ ?_ ?_
      · intro b s1 Q1 q
        exact gw b q
      · first | exact ft | (split <;> first | exact ft | exact SetTable.fits_plain_off ft)
      · first | exact rs | (split <;> exact rs)
      · first | exact led | (split <;> exact led)
      · intro h' sb r; dsimp only; exact wpAny_pure (fin h' sb r)
    · refine wpAny_bind (wpAny_pure ?_)
      simp only [↓reduceIte]
      refine setT_tail ?_ ho hex hd g1 pk nd1 hb1 ft rs led ?_
      · intro b s1 Q1 q
        exact gw b q
      · intro h' sb r; dsimp only; exact wpAny_pure (fin h' sb r)
theorem grow_len (L : List Str) (x : Str) : (grow L x).length ≤ L.length + 1 := by
  unfold grow
  split
  · omega
  · simp
/-- the texts, once each, as they are met -/
def once (xs : List Str) : List Str := xs.foldl grow []
theorem setT_loop {I : Addr} {fp wr : List Addr} {G : Array GenState → Array GenState → Prop} {n : Nat} {Pv : Nat → Value → Prop} {St : Nat → Shared → Prop} {R : Result → Shared → Prop}
    (W : WalksS P w A.in1 I fp wr G n Pv St) (S : Addr) (hSf : S ∉ fp) (xs : List Str) (hn : n = xs.length) (hb : xs.length + 1 < scanBound) (hval : ∀ i v, Pv i v → ∃ x t, xs[i]? = some x ∧ v = .str x t) :
    ∀ (k i : Nat) (s : Shared) (L : List Str), n - i = k → i ≤ n → St i s → L.length ≤ i → SetT P w s.heap S L →
      (∀ s', Moved (S :: wr) G s s' → SetT P w s'.heap S ((xs.drop i).foldl grow L) → R (.ok (.ret .none)) s') →
      codeAny (model P w) A (.builtin "set.update.loop" ⟨[.ref S, .ref I], []⟩) R s := by
  have hSw : S ∉ wr := fun h => hSf (W.sub _ h)
  have hsub : ∀ b ∈ wr, b ∈ S :: wr := fun b hb => List.mem_cons_of_mem _ hb
  intro k
  induction k with
  | zero =>
    intro i s L hk hi hst hL hS hR
    have hin : i = n := by omega
    subst hin
    refine codeAny_builtin F.entry_set_update_loop ?_
    rw [Around.under_plainId F.plain_set_update_loop _]
    show wpAny _ A.in1 (pyNext (.ref I) >>= _) _ _ s
    refine wpAny_bind (W.done s _ _ hst fun s' hm => ?_)
    show wpAny _ A.in1 (ret Value.none) _ _ s'
    rw [hn, List.drop_length] at hR
    exact wpAny_pure (hR s' (hm.mono hsub) (hS.at fun o e => hm.heap S o hSw e))
  | succ k ih =>
    intro i s L hk hi hst hL hS hR
    have hlt : i < n := by omega
    refine codeAny_builtin F.entry_set_update_loop ?_
    rw [Around.under_plainId F.plain_set_update_loop _]
    show wpAny _ A.in1 (pyNext (.ref I) >>= _) _ _ s
    refine wpAny_bind (W.item i s _ _ hlt hst fun v s' hP hst' hm => ?_)
    obtain ⟨z, t, hz, rfl⟩ := hval i v hP
    have hS' : SetT P w s'.heap S L := hS.at fun o e => hm.heap S o hSw e
    have hdrop : xs.drop i = z :: xs.drop (i + 1) := by
      have hlt' : i < xs.length := by omega
      rw [List.drop_eq_getElem_cons hlt']
      rw [List.getElem?_eq_getElem hlt'] at hz
      rw [Option.some.inj hz]
    rw [hdrop, List.foldl_cons] at hR
    show wpAny _ A.in1 (holding [Value.str z t] (setAdd S (.str z t)) >>= _) _ _ s'
    refine wpAny_bind (wpAny_holding ?_)
    unfold setAdd
    refine wpAny_holding ?_
    refine wpAny_bind ((PySem.strKind P w).pyHash (k := z) (strKind_is _ _ _ _) ?_)
    refine setT_add (s := { s' with toks := s'.toks + 1 }) hS' (by omega) fun h' hsb hS2 => ?_
    have hl2 := grow_len L z
    refine wpAny_pure ⟨plainId_quiet F.plain_set_update_loop _, ih (i + 1) _ (grow L z) (by omega) hlt (W.frame _ s' _ _ hst' (Nat.le_succ _) fun b hb o e => ?_) (by omega) hS2 fun s'' hm'' hS'' => ?_⟩
    · rw [hsb.2 b (fun h : b = S => hSf (by rw [← h]; exact hb))]; exact e
    · refine hR s'' (Moved.trans W.gtrans ((hm.mono hsub).then_heap (Nat.le_succ _) fun b o hb e => ?_) hm'') hS''
      rw [hsb.2 b (fun h : b = S => hb (by rw [h]; exact List.mem_cons_self))]; exact e
theorem setT_start {h : Heap} (ho : h.get? a = some { cls := .type "set", dict := none, data := .set #[] 0 (.fresh 0 0 (!w.params.followText "set-order")) }) : SetT P w h a [] := by
  refine ⟨_, #[], 0, _, ho, ⟨rfl, rfl, rfl⟩, rfl, fun e he => by simp at he, by simp, List.nodup_nil, by decide, by rfl, List.Pairwise.nil, ?_⟩
  cases e : w.params.followText "set-order" with
  | true => exact .inl rfl
  | false => exact .inr rfl
end
/-- a list's or tuple's items are texts -/
theorem texts_at : ∀ {us : List Value} {xs : List Str}, Vals (xs.map V.str) us → ∀ (i : Nat) (v : Value), us[i]? = some v → ∃ x t, xs[i]? = some x ∧ v = .str x t := by
  intro us xs
  induction xs generalizing us with
  | nil => intro r i v h; cases r; simp at h
  | cons x xs ih =>
    intro r i v h
    cases r with
    | cons r1 r2 =>
      obtain ⟨t, e⟩ := r1
      cases i with
      | zero => simp at h; exact ⟨x, t, rfl, by rw [← h]; exact e⟩
      | succ i => simp at h; simpa using ih r2 i v h
section
variable {P : Program} {w : World} {A : Around} {E : Value → Shared → Prop} {s : Shared}
set_option maxHeartbeats 3200000 in
theorem call_setT {l : Addr} {items : Array Value} (xs : List Str) {Q : Value → Shared → Prop} (hh : A.handled = none) (hl : s.heap.IsTuple l items ∨ s.heap.IsList l items) (hz : items.size = xs.length)
    (hval : ∀ (i : Nat) (v : Value), items[i]? = some v → ∃ x t, xs[i]? = some x ∧ v = .str x t) (hb : xs.length + 1 < scanBound)
    (h : ∀ (h' : Heap) (tk : Nat), SetT P w h' s.heap.objs.size (once xs) → (∀ b o, s.heap.get? b = some o → h'.get? b = some o) → Q (.ref s.heap.objs.size) { s with heap := h', toks := tk }) :
    wpAny (model P w) A (call (.type "set") [.ref l]) Q E s := by
  generalize hnew : ({ cls := .type "set", dict := none, data := .set #[] 0 (.fresh 0 0 (!w.params.followText "set-order")) } : Obj) = O
  obtain ⟨c, tl, hmro⟩ := F.called_set.mro
  have hmade := F.called_set.made
  have hsub := F.called_set.sub
  refine wpAny_call (codeAny_of_tree ?_)
  show wpAny _ _ (callAny (.type "set") _) _ _ _
  refine wpAny_pure ⟨Code.quiet_builtin _ (by decide +kernel), codeAny_builtin F.entry_type_call ?_⟩
  rw [Around.under_plain (weight_type_call_type "set" [.ref l] []) rfl]
  have h1 := F.called_set.notType
  have h2 := F.called_set.canCreate
  have hct := F.typeCall_set_1 (.ref l)
  repeat (any_goals (first | assumption | wp_step))
  refine codeAny_mono (L2.code_set_led1 (.ref l) (E := E) (Q₁ := fun obj s1 => obj = .ref s.heap.objs.size ∧ s1 = { s with heap := s.heap.push O }) ⟨rfl, by rw [hnew]⟩) fun r s1 hr => ?_
  cases r with
  | error e => exact hr
  | ok fl =>
    cases fl with
    | ret obj =>
      obtain ⟨rfl, rfl⟩ := hr
      have hS : (s.heap.push O).get? s.heap.objs.size = some O := Heap.get?_push_size _ (by rw [← hnew]; rfl)
      have hT : Shared.TypeIs { s with heap := s.heap.push O } (.ref s.heap.objs.size) "set" := ⟨_, hS, by rw [← hnew]⟩
      have hli := F.called_set.init.lookup
      have hbi := F.called_set.init.bind (.ref s.heap.objs.size)
      repeat (any_goals (first | assumption | wp_step))
      refine codeAny_mono (codeAny_call_builtin (R := wants (fun r s2 => r = .none ∧ ∃ h' tk, s2 = { s with heap := h', toks := tk } ∧ SetT P w h' s.heap.objs.size (once xs) ∧
          (∀ b o, s.heap.get? b = some o → h'.get? b = some o)) E) F.called_set.init.plain F.entry_set_init (check_set_init_1 hT ?_)) fun r2 s2 hr2 => ?_
      · have hlS : l < s.heap.objs.size := by
          rcases hl with ⟨o, q, _⟩ | ⟨o, q, _⟩
          · exact Heap.lt_size q
          · exact Heap.lt_size q
        have hh3 : A.in1.in1.in1.handled = none := by simp [hh]
        have hz1 : (s.heap.push O).objs.size = s.heap.objs.size + 1 := Heap.size_push ..
        have hneI : l ≠ (s.heap.push O).objs.size := by rw [hz1]; exact Nat.ne_of_lt (Nat.lt_succ_of_lt hlS)
        have hSf : s.heap.objs.size ∉ [(s.heap.push O).objs.size, l] := by
          rw [hz1]
          simp only [List.mem_cons, List.not_mem_nil, or_false, not_or]
          exact ⟨Nat.ne_of_lt (Nat.lt_succ_self _), Nat.ne_of_gt hlS⟩
        have fin : ∀ (s0 s' : Shared), s0.gens = s.gens → s0.drawn = s.drawn → s0.os = s.os → (∀ b o, s.heap.get? b = some o → s0.heap.get? b = some o) → Moved (s.heap.objs.size :: [(s.heap.push O).objs.size]) (fun a b => b = a) s0 s' → SetT P w s'.heap s.heap.objs.size (once xs) →
            ∃ h' tk, s' = { s with heap := h', toks := tk } ∧ SetT P w h' s.heap.objs.size (once xs) ∧ (∀ b o, s.heap.get? b = some o → h'.get? b = some o) := fun s0 s' e1 e2 e3 k0 hm hS' => by
          obtain ⟨h', g2, d', tk', os'⟩ := s'
          have eg : g2 = s.gens := hm.gens.trans e1
          have ed : d' = s.drawn := hm.drawn.trans e2
          have eo : os' = s.os := hm.os.trans e3
          subst eg; subst ed; subst eo
          refine ⟨h', tk', rfl, hS', fun b o e => ?_⟩
          have hb0 : b < s.heap.objs.size := Heap.lt_size e
          refine hm.heap b o ?_ (k0 b o e)
          rw [hz1]
          simp only [List.mem_cons, List.not_mem_nil, or_false, not_or]
          exact ⟨Nat.ne_of_lt hb0, Nat.ne_of_lt (Nat.lt_succ_of_lt hb0)⟩
        rcases hl with hl | hl
        · obtain ⟨ol, hol, hcl, nl, hdl⟩ := hl
          obtain ⟨ocls, odict, odata, oslots⟩ := ol
          simp only at hcl hdl
          subst hcl; subst hdl
          have hol' : (s.heap.push O).get? l = some { cls := .type "tuple", dict := odict, data := .seq items nl, slots := oslots } := Heap.get?_push_of_some _ hol
          have hsls := F.sub_tuple_set
          have hslf := F.sub_tuple_frozenset
          have hne : (Value.type "tuple" == Value.type "dict") = false := by decide
          have hl1 : (s.heap.push O).IsTuple l items := ⟨_, hol', rfl, nl, rfl⟩
          subst hnew
          unfold Builtin.«set.__init__» noKeywords Builtin.Frozenset.updateFrom
          generalize hPI : pyIter = PI
          wp_walk
          subst hPI
          refine wpAny_pyIter_tuple (s := { s with heap := s.heap.push _ }) hl1 ?_
          refine wpAny_bind (wpAny_runValue ?_)
          refine setT_loop ((Walks.tuple hh3 _ l hneI items).toS) s.heap.objs.size hSf xs hz hb hval (items.size - 0) 0 _ [] (by omega) (Nat.zero_le _) ⟨⟨_, Heap.get?_push_size _ rfl, rfl, rfl⟩, (hl1.push _)⟩ (Nat.le_refl _) ?_ ?_
          · exact setT_start (Heap.get?_push_of_some _ hS)
          · intro s' hm hS'
            obtain ⟨h', tk, rfl, q1, q2⟩ := fin _ s' (by rfl) (by rfl) (by rfl) (by intro b o e; exact Heap.get?_push_of_some _ (Heap.get?_push_of_some _ e)) hm hS'
            refine wpAny_pure ?_
            show wpAny _ _ (ret Value.none) _ _ _
            exact wpAny_pure ⟨rfl, h', tk, rfl, q1, q2⟩
        · obtain ⟨ol, hol, hcl, nl, hdl⟩ := hl
          obtain ⟨ocls, odict, odata, oslots⟩ := ol
          simp only at hcl hdl
          subst hcl; subst hdl
          have hol' : (s.heap.push O).get? l = some { cls := .type "list", dict := odict, data := .seq items nl, slots := oslots } := Heap.get?_push_of_some _ hol
          have hsls := F.sub_list_set
          have hslf := F.sub_list_frozenset
          have hne : (Value.type "list" == Value.type "dict") = false := by decide
          have hl1 : (s.heap.push O).IsList l items := ⟨_, hol', rfl, nl, rfl⟩
          subst hnew
          unfold Builtin.«set.__init__» noKeywords Builtin.Frozenset.updateFrom
          generalize hPI : pyIter = PI
          wp_walk
          subst hPI
          refine wpAny_pyIter_list (s := { s with heap := s.heap.push _ }) hl1 ?_
          refine wpAny_bind (wpAny_runValue ?_)
          refine setT_loop ((Walks.list hh3 _ l hneI items).toS) s.heap.objs.size hSf xs hz hb hval (items.size - 0) 0 _ [] (by omega) (Nat.zero_le _) ⟨⟨_, Heap.get?_push_size _ rfl, rfl, rfl⟩, (hl1.push _)⟩ (Nat.le_refl _) ?_ ?_
          · exact setT_start (Heap.get?_push_of_some _ hS)
          · intro s' hm hS'
            obtain ⟨h', tk, rfl, q1, q2⟩ := fin _ s' (by rfl) (by rfl) (by rfl) (by intro b o e; exact Heap.get?_push_of_some _ (Heap.get?_push_of_some _ e)) hm hS'
            refine wpAny_pure ?_
            show wpAny _ _ (ret Value.none) _ _ _
            exact wpAny_pure ⟨rfl, h', tk, rfl, q1, q2⟩
      · cases r2 with
        | error e => exact hr2
        | ok fl2 =>
          cases fl2 with
          | ret r =>
            obtain ⟨rfl, h', tk, rfl, q1, q2⟩ := hr2
            repeat (any_goals (first | assumption | wp_step))
            exact h _ _ q1 q2
          | _ => exact hr2.elim
    | _ => exact hr.elim
end
end OM
namespace OM
open PySem PySem.Spec PyProof.Rows L2
theorem once_dedup : ∀ (xs acc : List Str), xs.foldl grow acc = dedup acc xs
  | [], _ => rfl
  | x :: r, acc => by
    rw [List.foldl_cons, once_dedup r]
    unfold grow
    rw [dedup]
    split <;> rfl
theorem leT_total (a b : Str) : (leT a b || leT b a) = true := by
  unfold leT
  rw [Bool.or_eq_true, decide_eq_true_eq, decide_eq_true_eq]
  exact List.le_total _ _
theorem leT_trans (a b c : Str) (h1 : leT a b = true) (h2 : leT b c = true) : leT a c = true := by
  unfold leT at *
  rw [decide_eq_true_eq] at *
  exact List.le_trans h1 h2
theorem leT_anti (a b : Str) (h1 : leT a b = true) (h2 : leT b a = true) : a = b := by
  unfold leT at *
  rw [decide_eq_true_eq] at h1 h2
  have e := List.le_antisymm h1 h2
  cases a; cases b
  congr 1
  exact Array.toList_inj.mp e
theorem sortT_perm {xs ys : List Str} (p : xs.Perm ys) : sortT xs = sortT ys := by
  have s1 : (sortT xs).Pairwise (fun a b => leT a b = true) := List.pairwise_mergeSort (le := leT) leT_trans leT_total xs
  have s2 : (sortT ys).Pairwise (fun a b => leT a b = true) := List.pairwise_mergeSort (le := leT) leT_trans leT_total ys
  have q : (sortT xs).Perm (sortT ys) := (List.mergeSort_perm xs leT).trans (p.trans (List.mergeSort_perm ys leT).symm)
  exact q.eq_of_pairwise (fun a b _ _ h1 h2 => leT_anti a b h1 h2) s1 s2
/-- the set of texts at a -/
def SetH (P : Program) (w : World) (a : Addr) (L : List Str) : HO := .ext fun h => SetT P w h a L
theorem setH_new {P : Program} {w : World} {H : Hp} {h : Heap} {a : Addr} {L : List Str} (R : SetT P w h a L) : ObjOk P w H h a (SetH P w a L) := by
  refine ⟨R, ?_, fun h1 h2 r k => r.at k⟩
  obtain ⟨o, _, _, _, ho, _⟩ := R
  exact ⟨o, ho⟩
section
variable {X : Cx}
def rMkSet (K : PySem.W.Frag) (P : Program) (w : World) : List V → Hp → VK → Prop := fun vs H Q => ∃ (p : Addr) (xs : List Str), vs = [V.ref p] ∧ (SqL K H p (xs.map V.str) ∨ SqT K H p (xs.map V.str)) ∧ xs.length < 4000 ∧
  ∀ q, H q = none → Q (.ref q) (upd H q (SetH P w q (once xs)))
theorem cr_mkset (hc : X.calm = true) : CallR X (.type "set") (rMkSet X.K X.prog X.w) := by
  intro pins s σ H vs us Q I r h
  obtain ⟨p, xs, rfl, hp, hz, q⟩ := h
  rw [Vals.ref1 r]
  have fin : ∀ (its : List Value), Vals (xs.map V.str) its → (s.heap.IsTuple p its.toArray ∨ s.heap.IsList p its.toArray) → wpAny (model X.prog X.w) X.A (call (.type "set") [.ref p]) (EP X pins σ Q) X.xe s := fun its rv hl => by
    have e1 := rv.length
    rw [List.length_map] at e1
    refine call_setT xs (I.ok.hd hc) hl (by rw [List.size_toArray]; exact e1.symm) (fun i v hv => texts_at rv i v (by simpa using hv)) (by have : scanBound = 4096 := rfl; omega) fun h' tk R k => ?_
    have hn : H s.heap.objs.size = none := I.hok.fresh (Nat.le_refl _)
    exact ⟨.ref _, upd H s.heap.objs.size (SetH X.prog X.w s.heap.objs.size (once xs)), I.laid (t' := tk) k (Nat.le_refl _) (setH_new R), rfl, q _ hn⟩
  rcases hp with hp | hp
  · obtain ⟨its, rv, pl, _⟩ := I.list hp
    exact fin its rv (.inr pl.isList)
  · obtain ⟨its, rv, pl, _⟩ := I.tuple hp
    exact fin its rv (.inl pl)
theorem goodT_out {P : Program} {w : World} : ∀ {es : List (Int × Value)}, (∀ e ∈ es, GoodT P w e) → ∀ v ∈ es.map (·.2), ∃ x t, v = Value.str x t := fun g v hv => by
  obtain ⟨e, he, rfl⟩ := List.mem_map.mp hv
  obtain ⟨x, t, h, _⟩ := g e he
  exact ⟨x, t, h⟩
def strV (v : Value) : Str := match v with
  | .str x _ => x
  | _ => Str.empty
theorem each_strs : ∀ {out : List Value}, (∀ v ∈ out, ∃ x t, v = Value.str x t) → PySem.W.EachIs (fun v x => ∃ t, v = Value.str x t) out (out.map strV)
  | [], _ => .nil
  | v :: r, h => by
    obtain ⟨x, t, e⟩ := h v (by simp)
    refine .cons ⟨t, ?_⟩ (each_strs fun u hu => h u (by simp [hu]))
    rw [e]; rfl
theorem each_vals : ∀ {out : List Value} {xs : List Str}, PySem.W.EachIs (fun v x => ∃ t, v = Value.str x t) out xs → Vals (xs.map V.str) out
  | _, _, .nil => .nil
  | _, _, .cons h r => .cons h (each_vals r)
theorem each_mono {α β : Type} {R S : α → β → Prop} : ∀ {l : List α} {m : List β}, PySem.W.EachIs R l m → (∀ a b, R a b → S a b) → PySem.W.EachIs S l m
  | _, _, .nil, _ => .nil
  | _, _, .cons h r, k => .cons (k _ _ h) (each_mono r k)
/-- sorted(a set of texts) -/
def rSortSet (P : Program) (w : World) : List V → Hp → VK → Prop := fun vs H Q => ∃ (a : Addr) (L : List Str), vs = [V.ref a] ∧ H a = some (SetH P w a L) ∧ ∀ l, H l = none → Q (.ref l) (upd H l (.lst ((sortT L).map V.str)))
theorem cr_sortset (hc : X.calm = true) (hu : X.A.units + 64 < cLine) : CallR X (.builtin "sorted") (rSortSet X.prog X.w) := by
  intro pins s σ H vs us Q I r h
  obtain ⟨a, L, rfl, ha, q⟩ := h
  obtain ⟨o, es, ep, tb, ho, hex, hd, g, pm0, nd, hb, hf, hr, hl⟩ := (show SetT X.prog X.w s.heap a L from (I.hok a _ ha).1)
  rw [Vals.ref1 r]
  refine Calls.call_function_entry kind_sorted plain_sorted entry_sorted (args_sorted1 _) ?_
  unfold Builtin.«sorted»
  refine wpAny_bind (m := checkCount "sorted" 1 1 _) (wpAny_pure ?_)
  refine wpAny_bind (L2.collect_set (A := X.A.in1) (I.ok.hd hc) ⟨o, ho, hex.1, hd⟩ hf hb hr hl fun s1 vs k1 hz g1 o1 pm => ?_)
  have hvs : ∀ v ∈ vs, ∃ x t, v = Value.str x t := fun v hv => goodT_out g v (pm.mem_iff.mp hv)
  have hlen : vs.length < scanBound := by rw [pm.length_eq, List.length_map, Array.length_toList]; exact hb
  have hline : vs.length ≤ sizeLine := by have := fits_of_scanBound hlen; exact this
  have pL : (vs.map strV).Perm L := by
    have e : es.toList.map txtOf = (es.toList.map (·.2)).map strV := by
      rw [List.map_map]
      rfl
    have q1 := pm.map strV
    rw [← e] at q1
    exact q1.trans pm0
  refine wpAny_bind (wpAny_newList ?_ hline)
  have hoL : (s1.heap.push (seqObj "list" vs.toArray 0)).get? s1.heap.objs.size = some (seqObj "list" vs.toArray 0) := Heap.get?_push_size _ rfl
  have each := each_strs hvs
  refine wpAny_bind (wpAny_holding (PySem.W.list_sort_data (R := fun v x => ∃ t, v = Value.str x t) (enc := fun x : Str => PyData.str x) (bs := vs.map strV) (s := { s1 with heap := s1.heap.push (seqObj "list" vs.toArray 0) }) hoL each
    (each_mono each fun v x ⟨t, e⟩ => ⟨[], by rw [e]; exact .str x t, by simp⟩) (PySem.W.AllAlike.of fun _ _ => rfl) (PySem.W.Sortable.others fun x => ⟨(fun z => nomatch z), (fun _ z => nomatch z)⟩) (by rw [List.length_map]; exact hline)
    (fun x _ => by
      show X.A.units + 1 + 1 + 0 < cLine
      omega) fun out hol hout => ?_))
  have eord : (vs.map strV).mergeSort (PySem.W.dataLe false fun x : Str => PyData.str x) = sortT L := by
    rw [PySem.W.dataLe_str]
    exact sortT_perm pL
  rw [eord] at hout
  obtain ⟨c, hcget⟩ := sortedHeap_at (vs := vs) (out := out.toArray) hoL
  refine wpAny_pure ⟨_, rfl, ?_⟩
  have hp : s.heap.objs.size ≤ s1.heap.objs.size := hz
  have hn : H s1.heap.objs.size = none := I.hok.fresh hp
  have keep : ∀ b u, s.heap.get? b = some u → (sortedHeap (s1.heap.push (seqObj "list" vs.toArray 0)) s1.heap.objs.size vs out.toArray).get? b = some u := fun b u e => by
    have q1 := k1 b u e
    have hlt := Heap.lt_size q1
    rw [sortedHeap_old (Nat.ne_of_lt hlt) (by rw [size_push']; exact Nat.lt_succ_of_lt hlt)]
    exact Heap.get?_push_of_some _ q1
  have hsz : ((sortT L).map V.str).length ≤ sizeLine := by
    have e : (sortT L).length = vs.length := by
      unfold sortT
      rw [List.length_mergeSort, ← pL.length_eq, List.length_map]
    rw [List.length_map, e]
    exact hline
  have J : Inv X pins σ (upd H s1.heap.objs.size (.lst ((sortT L).map V.str))) { s with heap := sortedHeap (s1.heap.push (seqObj "list" vs.toArray 0)) s1.heap.objs.size vs out.toArray, gens := s1.gens, drawn := s1.drawn, toks := s1.toks } :=
    I.call (ch := []) (Un.laid keep hp hn) (I.hok.laid keep hp ⟨hsz, out, c, each_vals hout, hcget⟩) (by rw [g1]; exact I.bare) (fun _ z => nomatch z)
  have e1 : ({ s1 with heap := sortedHeap (s1.heap.push (seqObj "list" vs.toArray 0)) s1.heap.objs.size vs out.toArray } : Shared) = { s with heap := sortedHeap (s1.heap.push (seqObj "list" vs.toArray 0)) s1.heap.objs.size vs out.toArray, gens := s1.gens, drawn := s1.drawn, toks := s1.toks } := by
    cases s1
    cases s
    cases o1
    rfl
  exact ⟨.ref s1.heap.objs.size, _, by first | exact e1 ▸ J | (rw [← e1] at J; exact J), rfl, q _ hn⟩
/-- len(a set of texts) -/
theorem cr_lenset : CallR X (.builtin "len") (fun vs H Q => ∃ (a : Addr) (L : List Str), vs = [V.ref a] ∧ H a = some (SetH X.prog X.w a L) ∧ Q (.int L.length) H) := by
  intro pins s σ H vs us Q I r h
  obtain ⟨a, L, rfl, ha, q⟩ := h
  obtain ⟨o, es, ep, tb, ho, hex, hd, g, pm0, nd, hb, hf, hr, hl⟩ := (show SetT X.prog X.w s.heap a L from (I.hok a _ ha).1)
  rw [Vals.ref1 r]
  have e : es.size = L.length := by
    have q1 := pm0.length_eq
    rw [List.length_map, Array.length_toList] at q1
    exact q1
  have hb' : es.size < 4096 := hb
  exact call_len_set ho hex hd hf (by omega) ⟨.int L.length, H, I.tok _, ⟨_, by rw [e]⟩, q⟩
end
section
variable {X : Cx} {G : GX}
theorem Lf.set {W : Wl} {d : D} {st' : Store} {Q : VK} {q : Addr} {o : HO} (l : Lf G W d st' Q) (hq : W.H q = none) : Lf G (W.lay q o) d st' Q := fun W' v e x s r => l W' v e ((W.lay_ext hq).trans x) s r
theorem strs_seq {W : Wl} {a : D} {xs : List D} {ss : List Str} {v : V} (hs : SRel G W) (ra : Rel G W a v) (h1 : seqOf W.st a = some xs) (h2 : strsOf xs = some ss) :
    ∃ p, v = .ref p ∧ (SqL G.K W.H p (ss.map V.str) ∨ SqT G.K W.H p (ss.map V.str)) ∧ ∀ x ∈ ss, TxtOk x := by
  obtain ⟨p, vs, e, r, hq⟩ := seqOf_k hs ra h1
  obtain ⟨e2, ok⟩ := strs_rel r h2
  exact ⟨p, e, by rw [← e2]; exact hq, ok⟩
theorem strs_out {W : Wl} : ∀ {ss : List Str}, (∀ x ∈ ss, TxtOk x) → RelL G W (ss.map D.str) (ss.map V.str)
  | [], _ => .nil
  | x :: r, h => .cons (.str x (h x (by simp))) (strs_out fun y hy => h y (by simp [hy]))
theorem dedup_sub : ∀ (xs acc : List Str) (x : Str), x ∈ dedup acc xs → x ∈ acc ∨ x ∈ xs
  | [], acc, x, h => .inl h
  | y :: r, acc, x, h => by
    rw [dedup] at h
    split at h
    · rcases dedup_sub r acc x h with z | z
      · exact .inl z
      · exact .inr (by simp [z])
    · rcases dedup_sub r _ x h with z | z
      · rcases List.mem_append.mp z with z | z
        · exact .inl z
        · exact .inr (by simp [List.mem_singleton.mp z])
      · exact .inr (by simp [z])
end
end OM
namespace OM
open PySem PySem.Spec L2
/-- a run ends well: k of its value, or x of what is raised -/
def wpR {α : Type} (r : Res α) (k : α → Store → Prop) (x : Xc → Store → Prop) : Prop :=
  match r with
  | some (.ok a st) => k a st
  | some (.exc e st) => x e st
  | none => False
section
variable {α β : Type}
theorem wpR_bind {m : Res α} {f : α → Store → Res β} {k : β → Store → Prop} {x : Xc → Store → Prop} : wpR (m.bind f) k x ↔ wpR m (fun a st => wpR (f a st) k x) x := by
  cases m with
  | none => exact Iff.rfl
  | some o => cases o <;> exact Iff.rfl
theorem wpR_mono {m : Res α} {k k' : α → Store → Prop} {x x' : Xc → Store → Prop} (h : wpR m k x) (hk : ∀ a st, k a st → k' a st) (hx : ∀ e st, x e st → x' e st) : wpR m k' x' := by
  cases m with
  | none => exact h
  | some o => cases o with
    | ok a st => exact hk a st h
    | exc e st => exact hx e st h
theorem wpR_lift {o : Option α} {st : Store} {k : α → Store → Prop} {x : Xc → Store → Prop} (h : wpR (lift o st) k x) : ∃ a, o = some a ∧ k a st := by
  cases o with
  | none => exact h.elim
  | some a => exact ⟨a, rfl, h⟩
theorem wpR_run {m : Res α} {k : α → Store → Prop} {x : Xc → Store → Prop} (h : wpR m k x) : (∃ a st, m = ok a st ∧ k a st) ∨ ∃ e st, m = some (.exc e st) ∧ x e st := by
  cases m with
  | none => exact h.elim
  | some o => cases o with
    | ok a st => exact .inl ⟨a, st, rfl, h⟩
    | exc e st => exact .inr ⟨e, st, rfl, h⟩
end
/-- what lies in the air for a raised x: its class, its dict with its fields -/
def XRel (G : GX) (W : Wl) (x : Xc) (cls : Value) (d : Option Addr) : Prop := cls = .ref (G.cl x.cls) ∧ ((x.fn = [] ∧ d = none) ∨ ∃ dd fs, d = some dd ∧ W.H dd = some (.xd fs) ∧ ¬ W.T dd ∧ ∀ f e, lookK x.fn x.fv f = some e → ∃ v, fs.lookup f = some v ∧ Rel G W e v)
theorem XRel.ext0 {G : GX} {W W' : Wl} (e : Ext0 W W') {x : Xc} {cls : Value} {d : Option Addr} (r : XRel G W x cls d) : XRel G W' x cls d := by
  obtain ⟨h, r⟩ := r
  refine ⟨h, r.imp id fun ⟨dd, fs, a, b, c, k⟩ => ?_⟩
  obtain ⟨b', c'⟩ := e.keep dd _ b c nofun
  exact ⟨dd, fs, a, b', c', fun f u q => let ⟨v, h1, h2⟩ := k f u q; ⟨v, h1, h2.ext0 e⟩⟩
/-- the wish for what is raised behind W -/
def Xf (G : GX) (Ww : WX) (σ : L2.St) (W : Wl) : Xc → Store → Prop := fun x st' => ∀ W' cls d, W'.st = st' → Ext W W' → SRel G W' → XRel G W' x cls d → Ww cls d σ W'.H
theorem Xf.ext {G : GX} {Ww : WX} {σ : L2.St} {W W1 : Wl} (e : Ext W W1) {x : Xc} {st : Store} (h : Xf G Ww σ W x st) : Xf G Ww σ W1 x st := fun W' cls d a b c r => h W' cls d a (e.trans b) c r
section
variable (G : GX) (Ww : WX) (C : Calls)
/-- an expression's reading -/
def RE (e : Ex) : TE := fun σ H Q => ∃ W φ, W.H = H ∧ FRel G W φ σ ∧ SRel G W ∧ wpR (evE C e φ W.st) (fun d st' => Lf G W d st' Q) (Xf G Ww σ W)
/-- as a test -/
def RT (e : Ex) : TT := fun σ H Q => ∃ W φ, W.H = H ∧ FRel G W φ σ ∧ SRel G W ∧ wpR ((evE C e φ W.st).bind fun d st => lift (truth st d) st) (fun b st' => ∀ W', W'.st = st' → Ext W W' → SRel G W' → Q b W'.H) (Xf G Ww σ W)
/-- arguments -/
def RA (es : List Ex) : TA := fun σ H Q => ∃ W φ, W.H = H ∧ FRel G W φ σ ∧ SRel G W ∧ wpR (evL C es φ W.st) (fun ds st' => ∀ W' vs, W'.st = st' → Ext W W' → SRel G W' → RelL G W' ds vs → Q vs W'.H) (Xf G Ww σ W)
/-- a slice's part -/
def RO (e : Option Ex) : TO := fun σ H Q => ∃ W φ, W.H = H ∧ FRel G W φ σ ∧ SRel G W ∧ wpR (evO C e φ W.st) (fun o st' => ∀ W', W'.st = st' → Ext W W' → SRel G W' → Q o W'.H) (Xf G Ww σ W)
end
theorem PE.of {X : Cx} {e : Expr} {t t' : TE} (h : PE X e t) (k : ∀ σ H Q, t' σ H Q → t σ H Q) : PE X e t' := ⟨fun pins s σ H Q I q => h.run pins s σ H Q I (k σ H Q q)⟩
theorem PT.of {X : Cx} {e : Expr} {t t' : TT} (h : PT X e t) (k : ∀ σ H Q, t' σ H Q → t σ H Q) : PT X e t' := ⟨fun pins s σ H Q I q => h.run pins s σ H Q I (k σ H Q q)⟩
theorem PA.of {X : Cx} {e : List Expr} {t t' : TA} (h : PA X e t) (k : ∀ σ H Q, t' σ H Q → t σ H Q) : PA X e t' := ⟨fun pos pins s σ H Q I q => h.run pos pins s σ H Q I (k σ H Q q)⟩
theorem PO.of {X : Cx} {e : Option Expr} {t t' : TO} (h : PO X e t) (k : ∀ σ H Q, t' σ H Q → t σ H Q) : PO X e t' := ⟨fun pins s σ H Q I q => h.run pins s σ H Q I (k σ H Q q)⟩
section
variable {G : GX} {Ww : WX} {C : Calls} {X : Cx} {W : Wl} {φ : Fr} {σ : L2.St} {Q : VK}
/-- the step: a part, then what follows with its value -/
theorem RE.step {e : Ex} {k : D → Store → Prop} (f : FRel G W φ σ) (s : SRel G W) (h : wpR (evE C e φ W.st) k (Xf G Ww σ W)) (hk : ∀ d W' v, k d W'.st → Ext W W' → FRel G W' φ σ → SRel G W' → Rel G W' d v → Q v W'.H) : RE G Ww C e σ W.H Q :=
  ⟨W, φ, rfl, f, s, wpR_mono h (fun d st' q W' v e1 x s' r => hk d W' v (e1 ▸ q) x (f.ext x) s' r) fun _ _ q => q⟩
theorem RA.step {es : List Ex} {k : List D → Store → Prop} {Q : List V → Hp → Prop} (f : FRel G W φ σ) (s : SRel G W) (h : wpR (evL C es φ W.st) k (Xf G Ww σ W)) (hk : ∀ ds W' vs, k ds W'.st → Ext W W' → FRel G W' φ σ → SRel G W' → RelL G W' ds vs → Q vs W'.H) : RA G Ww C es σ W.H Q :=
  ⟨W, φ, rfl, f, s, wpR_mono h (fun d st' q W' v e1 x s' r => hk d W' v (e1 ▸ q) x (f.ext x) s' r) fun _ _ q => q⟩
theorem RO.step {e : Option Ex} {k : Option Int → Store → Prop} {Q : Option Int → Hp → Prop} (f : FRel G W φ σ) (s : SRel G W) (h : wpR (evO C e φ W.st) k (Xf G Ww σ W)) (hk : ∀ o W', k o W'.st → Ext W W' → FRel G W' φ σ → SRel G W' → Q o W'.H) : RO G Ww C e σ W.H Q :=
  ⟨W, φ, rfl, f, s, wpR_mono h (fun d st' q W' e1 x s' => hk d W' (e1 ▸ q) x (f.ext x) s') fun _ _ q => q⟩
theorem RT.step {e : Ex} {k : Bool → Store → Prop} {Q : Bool → Hp → Prop} (f : FRel G W φ σ) (s : SRel G W) (h : wpR ((evE C e φ W.st).bind fun d st => lift (truth st d) st) k (Xf G Ww σ W)) (hk : ∀ b W', k b W'.st → Ext W W' → FRel G W' φ σ → SRel G W' → Q b W'.H) : RT G Ww C e σ W.H Q :=
  ⟨W, φ, rfl, f, s, wpR_mono h (fun d st' q W' e1 x s' => hk d W' (e1 ▸ q) x (f.ext x) s') fun _ _ q => q⟩
theorem Xf.from {W W1 : Wl} (e : Ext W W1) {α : Type} {m : Res α} {k : α → Store → Prop} (h : wpR m k (Xf G Ww σ W)) : wpR m k (Xf G Ww σ W1) := wpR_mono h (fun _ _ q => q) fun _ _ q => q.ext e
/-- what the last step leaves -/
theorem Lf.from {W W1 : Wl} {d : D} {st : Store} (e : Ext W W1) (l : Lf G W d st Q) : Lf G W1 d st Q := fun W' v a x s r => l W' v a (e.trans x) s r
theorem se_var {i : Nat} {x : Str} {pos : Pos} (hN : X.N[i]? = some x) (hv : Vis X.env.scope x) (hd : (x == ("__debug__" : Str)) = false) (hcd : (x == ("__classdict__" : Str)) = false) : PE X (.Name x pos) (RE G Ww C (.var i)) := by
  refine PE.of (pe_var hN hv hd hcd) fun σ H Q h => ?_
  obtain ⟨W, φ, rfl, f, s, h⟩ := h
  have h' : wpR (match φ[i]? with
    | some (some d) => ok d W.st
    | _ => none) (fun d st' => Lf G W d st' Q) (Xf G Ww σ W) := h
  cases e : φ[i]? with
  | none => rw [e] at h'; exact h'.elim
  | some o =>
    rw [e] at h'
    cases o with
    | none => exact h'.elim
    | some d =>
      obtain ⟨v, e1, r⟩ := f.at_ i d e
      exact ⟨v, e1, Lf.here (d := d) h' s r⟩
theorem se_const {d : D} {v : V} {e : Expr} (he : PE X e (tC v)) (r : ∀ W, Rel G W d v) : PE X e (RE G Ww C (.cst d)) := by
  refine PE.of he fun σ H Q h => ?_
  obtain ⟨W, φ, rfl, f, s, h⟩ := h
  exact Lf.here (d := d) h s (r W)
/-- a thing may be known from now on -/
def QLock (Q : VK) : VK := fun v H => Q v H ∨ ∃ p u, H p = some u ∧ Mut (some u) ∧ ∀ od, Q v (upd H p (.frz od u))
theorem pe_may {e : Expr} {t : TE} (he : PE X e t) : PE X e (fun σ H Q => t σ H (QLock Q)) := by
  refine ⟨fun pins s σ H Q I h => thn (he.run pins s σ H _ I h) fun v s1 ⟨x, H1, I1, r1, q⟩ => ?_⟩
  rcases q with q | ⟨p, u, hp, mu, q⟩
  · exact ⟨x, H1, I1, r1, q⟩
  · obtain ⟨od, I2⟩ := I1.lock hp mu
    exact ⟨x, _, I2, r1, q od⟩
theorem se_frz {e : Expr} {ex : Ex} (he : PE X e (RE G Ww C ex)) : PE X e (RE G Ww C (.frz ex)) := by
  refine PE.of (pe_may he) fun σ H Q h => ?_
  obtain ⟨W, φ, rfl, f, s, h⟩ := h
  have h' := wpR_bind.mp h
  refine RE.step f s h' fun d W' v q x f' s' r => ?_
  have here : Lf G W d W'.st Q → QLock Q v W'.H := fun l => .inl (l W' v rfl x s' r)
  cases d with
  | ref n =>
    cases r with
    | ref _ hn =>
      have q' : wpR (match W'.st.get n with
        | some (.lst xs) => ok (D.lst xs) (W'.st.put n none)
        | some (.dct ks vs) => ok (D.dct ks vs) (W'.st.put n none)
        | some (.obj c fn fv) => ok (D.obj c fn fv) (W'.st.put n none)
        | none => none) (fun d st' => Lf G W d st' Q) (Xf G Ww σ W) := q
      cases g : W'.st.get n with
      | none => rw [g] at q'; exact q'.elim
      | some o =>
        rw [g] at q'
        cases o with
        | lst xs =>
          have l : Lf G W (.lst xs) (W'.st.put n none) Q := q'
          exact .inl (l (W'.kill n) _ rfl (x.trans W'.kill_ext) (Wl.kill_s s') (Wl.kill_lst s' g))
        | dct ks vs =>
          have l : Lf G W (.dct ks vs) (W'.st.put n none) Q := q'
          cases s'.ob n _ g with
          | dct a hl hk r => exact .inr ⟨_, _, a, trivial, fun od => l (W'.lock n _) _ rfl (x.trans (W'.lock_ext s' g)) (Wl.lock_s s' g) (Wl.lock_dct s' g hl hk r)⟩
        | obj c fn fv =>
          have l : Lf G W (.obj c fn fv) (W'.st.put n none) Q := q'
          exact .inl (l (W'.kill n) _ rfl (x.trans W'.kill_ext) (Wl.kill_s s') (Wl.kill_obj s' g))
  | _ => exact here q
theorem se_bin {a b : Expr} {ea eb : Ex} {o : BO} {pos : Pos} (hK : X.K = G.K) (ha : PE X a (RE G Ww C ea)) (hb : PE X b (RE G Ww C eb)) : PE X (.BinOp a o.op b pos) (RE G Ww C (.bin o ea eb)) := by
  refine PE.of (pe_op (op_bin hK o) ha hb) fun σ H Q h => ?_
  obtain ⟨W, φ, rfl, f, s, h⟩ := h
  refine RE.step f s (wpR_bind.mp h) fun x W1 v1 q1 x1 f1 s1 r1 => ?_
  refine RE.step f1 s1 (Xf.from x1 (wpR_bind.mp q1)) fun y W2 v2 q2 x2 f2 s2 r2 => ?_
  obtain ⟨d, e, l⟩ := wpR_lift q2
  exact ⟨W2, x, y, d, rfl, s2, r1.ext x2, r2, e, l.from (x1.trans x2)⟩
theorem se_neg {a : Expr} {ea : Ex} {pos : Pos} (ha : PE X a (RE G Ww C ea)) : PE X (.UnaryOp .USub a pos) (RE G Ww C (.neg ea)) := by
  refine PE.of (pe_un un_neg ha) fun σ H Q h => ?_
  obtain ⟨W, φ, rfl, f, s, h⟩ := h
  refine RE.step f s (wpR_bind.mp h) fun x W1 v1 q1 x1 f1 s1 r1 => ?_
  cases r1 with
  | int i => exact ⟨i, rfl, (show Lf G W (.int (-i)) W1.st Q from q1) W1 _ rfl x1 s1 (.int _)⟩
  | _ => exact (show False from q1).elim
theorem se_cmp {a b : Expr} {ea eb : Ex} {o : CO} {pos : Pos} (hK : X.K = G.K) (hu : X.A.units + 65 < cLine) (hm : behindInMarks o.op b = false) (ha : PE X a (RE G Ww C ea)) (hb : PE X b (RE G Ww C eb)) : PE X (.Compare a [o.op] [b] pos) (RE G Ww C (.cmp o ea eb)) := by
  refine PE.of (pe_cmpR (op_cmp hK hu o) ha hb hm) fun σ H Q h => ?_
  obtain ⟨W, φ, rfl, f, s, h⟩ := h
  refine RE.step f s (wpR_bind.mp h) fun x W1 v1 q1 x1 f1 s1 r1 => ?_
  refine RE.step f1 s1 (Xf.from x1 (wpR_bind.mp q1)) fun y W2 v2 q2 x2 f2 s2 r2 => ?_
  obtain ⟨d, e, l⟩ := wpR_lift q2
  exact ⟨W2, x, y, d, rfl, s2, r1.ext x2, r2, e, l.from (x1.trans x2)⟩
theorem ord_bl {st : Store} {a b d : D} {o : CO} {k : D → D → Bool} (ho : (o = .lt ∧ k = fun x y => dlt x y) ∨ (o = .le ∧ k = fun x y => !dlt y x) ∨ (o = .gt ∧ k = fun x y => dlt y x) ∨ (o = .ge ∧ k = fun x y => !dlt x y)) (h : cmpop st o a b = some d) : ∃ k, d = .bl k := by
  by_cases hij : ∃ i j, a = .int i ∧ b = .int j
  · obtain ⟨i, j, rfl, rfl⟩ := hij
    rcases ho with ⟨rfl, _⟩ | ⟨rfl, _⟩ | ⟨rfl, _⟩ | ⟨rfl, _⟩ <;> exact ⟨_, (Option.some.inj h).symm⟩
  · rw [ord_none ho st a b fun i j z => hij ⟨i, j, z⟩] at h
    unfold ordD at h
    split at h
    · split at h
      · exact ⟨_, (Option.some.inj h).symm⟩
      · cases h
    · cases h
theorem cmpop_bl {st : Store} {o : CO} {a b d : D} (h : cmpop st o a b = some d) : ∃ k, d = .bl k := by
  cases o with
  | eq =>
    have h' : (eqD st a b).map D.bl = some d := h
    cases e : eqD st a b with
    | none => rw [e] at h'; cases h'
    | some k => rw [e] at h'; exact ⟨k, (Option.some.inj h').symm⟩
  | ne =>
    have h' : (eqD st a b).map (fun k => D.bl (!k)) = some d := h
    cases e : eqD st a b with
    | none => rw [e] at h'; cases h'
    | some k => rw [e] at h'; exact ⟨_, (Option.some.inj h').symm⟩
  | in_ =>
    have h' : (inD st a b).map D.bl = some d := h
    cases e : inD st a b with
    | none => rw [e] at h'; cases h'
    | some k => rw [e] at h'; exact ⟨k, (Option.some.inj h').symm⟩
  | notin =>
    have h' : (inD st a b).map (fun k => D.bl (!k)) = some d := h
    cases e : inD st a b with
    | none => rw [e] at h'; cases h'
    | some k => rw [e] at h'; exact ⟨_, (Option.some.inj h').symm⟩
  | is_ => cases a <;> cases b <;> first | exact ⟨_, (Option.some.inj h).symm⟩ | cases h
  | isnot => cases a <;> cases b <;> first | exact ⟨_, (Option.some.inj h).symm⟩ | cases h
  | lt => exact ord_bl (.inl ⟨rfl, rfl⟩) h
  | le => exact ord_bl (.inr (.inl ⟨rfl, rfl⟩)) h
  | gt => exact ord_bl (.inr (.inr (.inl ⟨rfl, rfl⟩))) h
  | ge => exact ord_bl (.inr (.inr (.inr ⟨rfl, rfl⟩))) h
theorem se_chain {a b c : Expr} {ea eb ec : Ex} {o p : CO} {pos : Pos} (hK : X.K = G.K) (hu : X.A.units + 65 < cLine) (hm1 : behindInMarks o.op b = false) (hm2 : behindInMarks p.op c = false) (ha : PE X a (RE G Ww C ea)) (hb : PE X b (RE G Ww C eb)) (hc : PE X c (RE G Ww C ec))
    : PE X (.Compare a [o.op, p.op] [b, c] pos) (RE G Ww C (.chain o p ea eb ec)) := by
  refine PE.of (pe_chain (op_cmp hK hu o) (op_cmp hK hu p) ha hb hc hm2) fun σ H Q h => ?_
  obtain ⟨W, φ, rfl, f, s, h⟩ := h
  refine RE.step f s (wpR_bind.mp h) fun x W1 v1 q1 x1 f1 s1 r1 => ?_
  refine RE.step f1 s1 (Xf.from x1 (wpR_bind.mp q1)) fun y W2 v2 q2 x2 f2 s2 r2 => ?_
  obtain ⟨d, e, l⟩ := wpR_lift (wpR_bind.mp q2)
  obtain ⟨k, rfl⟩ := cmpop_bl e
  refine ⟨W2, x, y, _, rfl, s2, r1.ext x2, r2, e, fun W3 v3 e3 x3 s3 r3 => ?_⟩
  cases r3 with
  | bl _ =>
    refine ⟨k, rfl, ?_⟩
    cases k with
    | true =>
      have l' : wpR ((evE C ec φ W2.st).bind fun z st => lift (cmpop st p y z) st) (fun d st' => Lf G W d st' Q) (Xf G Ww σ W) := l
      rw [← e3] at l'
      refine RE.step (f2.ext x3) s3 (Xf.from ((x1.trans x2).trans x3) (wpR_bind.mp l')) fun z W4 v4 q4 x4 f4 s4 r4 => ?_
      obtain ⟨d, e4, l4⟩ := wpR_lift q4
      exact ⟨W4, y, z, d, rfl, s4, (r2.ext x3).ext x4, r4, e4, l4.from (((x1.trans x2).trans x3).trans x4)⟩
    | false =>
      have l' : Lf G W (.bl false) W2.st Q := l
      exact l' W3 _ e3 ((x1.trans x2).trans x3) s3 (.bl _)
theorem se_tup {es : List Expr} {xs : List Ex} {k : Nat} {pos : Pos} (h : PA X es (RA G Ww C xs)) : PE X (.Tuple es k pos) (RE G Ww C (.tup xs)) := by
  refine PE.of (pe_tup h) fun σ H Q h => ?_
  obtain ⟨W, φ, rfl, f, s, h⟩ := h
  refine RA.step f s (wpR_bind.mp h) fun ds W1 vs q1 x1 f1 s1 r1 => ?_
  by_cases hz : ds.length ≤ line
  · rw [if_pos hz] at q1
    exact ⟨by rw [← r1.length, ← line_eq]; exact hz, fun p hp => (Lf.from x1 (show Lf G W (.tup ds) W1.st Q from q1)).tup s1 r1 p hp⟩
  · rw [if_neg hz] at q1; exact q1.elim
theorem Lf.mk' {W W1 : Wl} {m : Bool} {ds : List D} {vs : List V} (x1 : Ext W W1) (s1 : SRel G W1) (h : wpR (OM.mk m (.lst ds) W1.st) (fun d st' => Lf G W d st' Q) (Xf G Ww σ W)) (r : RelL G W1 ds vs) (p : Addr) (hp : W1.H p = none) : Q (.ref p) (upd W1.H p (.lst vs)) := by
  rcases wpR_run h with ⟨d, st', e, l⟩ | ⟨e, st', e2, l⟩
  · exact (l.from x1).mk e s1 r p hp
  · cases m <;> cases e2
theorem se_lst {m : Bool} {es : List Expr} {xs : List Ex} {pos : Pos} (h : PA X es (RA G Ww C xs)) : PE X (.List es pos) (RE G Ww C (.lst m xs)) := by
  refine PE.of (pe_lst h) fun σ H Q h => ?_
  obtain ⟨W, φ, rfl, f, s, h⟩ := h
  refine RA.step f s (wpR_bind.mp h) fun ds W1 vs q1 x1 f1 s1 r1 => ?_
  by_cases hz : ds.length ≤ line
  · rw [if_pos hz] at q1
    exact ⟨by rw [← r1.length, ← line_eq]; exact hz, fun p hp => Lf.mk' x1 s1 q1 r1 p hp⟩
  · rw [if_neg hz] at q1; exact q1.elim
theorem sa_nil : PA X [] (RA G Ww C []) := by
  refine PA.of pa_nil fun σ H Q h => ?_
  obtain ⟨W, φ, rfl, f, s, h⟩ := h
  exact (show ∀ W' vs, W'.st = W.st → Ext W W' → SRel G W' → RelL G W' [] vs → Q vs W'.H from h) W [] rfl (.refl W) s .nil
theorem sa_cons {e : Expr} {es : List Expr} {x : Ex} {xs : List Ex} (he : PE X e (RE G Ww C x)) (hr : PA X es (RA G Ww C xs)) (hs : starEach (e :: es) X.env = (false, eval e X.env) :: starEach es X.env) : PA X (e :: es) (RA G Ww C (x :: xs)) := by
  refine PA.of (pa_cons he hr hs) fun σ H Q h => ?_
  obtain ⟨W, φ, rfl, f, s, h⟩ := h
  refine RE.step f s (wpR_bind.mp h) fun d W1 v1 q1 x1 f1 s1 r1 => ?_
  refine RA.step f1 s1 (Xf.from x1 (wpR_bind.mp q1)) fun ds W2 vs q2 x2 f2 s2 r2 => ?_
  exact (show ∀ W' vs, W'.st = W2.st → Ext W W' → SRel G W' → RelL G W' (d :: ds) vs → Q vs W'.H from q2) W2 _ rfl (x1.trans x2) s2 (.cons (r1.ext x2) r2)
end
end OM
namespace OM
open PySem PySem.Spec L2
section
variable {G : GX} {Ww : WX} {C : Calls} {X : Cx} {W : Wl} {φ : Fr} {σ : L2.St} {Q : VK}
theorem st_val {e : Expr} {ex : Ex} (hK : X.K = G.K) (he : PE X e (RE G Ww C ex)) (hp : ∀ whole, isTrue e X.env whole = (do let v ← whole; standAt e.pos; holding [v] (truthy v))) : PT X e (RT G Ww C ex) := by
  refine PT.of (pt_truth he hp) fun σ H Q h => ?_
  obtain ⟨W, φ, rfl, f, s, h⟩ := h
  refine RE.step f s (wpR_bind.mp h) fun d W1 v q x1 f1 s1 r1 => ?_
  obtain ⟨b, e, q⟩ := wpR_lift q
  exact ⟨b, by rw [hK]; exact truth_v s1 r1 e, q W1 rfl x1 s1⟩
theorem st_not {e : Expr} {ex : Ex} {pos : Pos} (he : PT X e (RT G Ww C ex)) : PT X (.UnaryOp .Not e pos) (RT G Ww C (.not ex)) := by
  refine PT.of (pt_not he) fun σ H Q h => ?_
  obtain ⟨W, φ, rfl, f, s, h⟩ := h
  refine RT.step (k := fun b st' => ∀ W', W'.st = st' → Ext W W' → SRel G W' → Q (!b) W'.H) f s ?_ fun b W' q x f' s' => q W' rfl x s'
  rw [wpR_bind] at h ⊢
  have h2 := wpR_bind.mp h
  refine wpR_mono h2 (fun d st q => ?_) fun _ _ q => q
  cases e : truth st d with
  | none => rw [e] at q; exact q.elim
  | some b => rw [e] at q; exact q
theorem st_ite {c a b : Expr} {ec ea eb : Ex} {pos : Pos} (hc : PT X c (RT G Ww C ec)) (ha : PE X a (RE G Ww C ea)) (hb : PE X b (RE G Ww C eb)) : PE X (.IfExp c a b pos) (RE G Ww C (.ite ec ea eb)) := by
  refine PE.of (pe_ifExp hc ha hb) fun σ H Q h => ?_
  obtain ⟨W, φ, rfl, f, s, h⟩ := h
  refine RT.step (k := fun b st' => wpR (if b = true then evE C ea φ st' else evE C eb φ st') (fun d st' => Lf G W d st' Q) (Xf G Ww σ W)) f s ?_ fun b W' q x f' s' => ?_
  · rw [wpR_bind]
    refine wpR_mono (wpR_bind.mp h) (fun d st q => ?_) fun _ _ q => q
    cases e : truth st d with
    | none => rw [e] at q; exact q.elim
    | some b => rw [e] at q; cases b <;> exact q
  · cases b with
    | true => exact RE.step f' s' (Xf.from x q) fun d W2 v l x2 _ s2 r2 => l W2 v rfl (x.trans x2) s2 r2
    | false => exact RE.step f' s' (Xf.from x q) fun d W2 v l x2 _ s2 r2 => l W2 v rfl (x.trans x2) s2 r2
theorem sw_one_and {e : Expr} {ex : Ex} {pos : Pos} (he : PT X e (RT G Ww C ex)) : PW X (.BoolOp .And [e] pos) (RT G Ww C ex) := pw_and1 he
theorem sw_one_or {e : Expr} {ex : Ex} {pos : Pos} (he : PT X e (RT G Ww C ex)) : PW X (.BoolOp .Or [e] pos) (RT G Ww C ex) := pw_or1 he
theorem PW.of {X : Cx} {e : Expr} {t t' : TT} (h : PW X e t) (k : ∀ σ H Q, t' σ H Q → t σ H Q) : PW X e t' := ⟨fun wh pins s σ H Q I q => h.run wh pins s σ H Q I (k σ H Q q)⟩
/-- the second part of and, or, as a test -/
theorem RT.of_run {e : Ex} {W1 : Wl} {Qb : Bool → Hp → Prop} (x : Ext W W1) (f : FRel G W1 φ σ) (s : SRel G W1) (h : wpR ((evE C e φ W1.st).bind fun d st => lift (truth st d) st) (fun b st' => ∀ W', W'.st = st' → Ext W W' → SRel G W' → Qb b W'.H) (Xf G Ww σ W)) : RT G Ww C e σ W1.H Qb :=
  RT.step f s (Xf.from x h) fun b W2 q x2 _ s2 => q W2 rfl (x.trans x2) s2
theorem sw_and {a b : Expr} {rest : List Expr} {ea eb : Ex} {pos : Pos} (ha : PT X a (RT G Ww C ea)) (hb : PW X (.BoolOp .And (b :: rest) pos) (RT G Ww C eb)) : PW X (.BoolOp .And (a :: b :: rest) pos) (RT G Ww C (.and ea eb)) := by
  refine PW.of (pw_and ha hb) fun σ H Q h => ?_
  obtain ⟨W, φ, rfl, f, s, h⟩ := h
  refine RT.step (k := fun c st' => if c = true then wpR ((evE C eb φ st').bind fun d st => lift (truth st d) st) (fun b st' => ∀ W', W'.st = st' → Ext W W' → SRel G W' → Q b W'.H) (Xf G Ww σ W) else ∀ W', W'.st = st' → Ext W W' → SRel G W' → Q false W'.H) f s ?_ fun c W' q x f' s' => ?_
  · rw [wpR_bind]
    refine wpR_mono (wpR_bind.mp (wpR_bind.mp h)) (fun d st q => ?_) fun _ _ q => q
    cases e : truth st d with
    | none => rw [e] at q; exact q.elim
    | some c =>
      rw [e] at q
      cases c with
      | true => exact wpR_bind.mpr q
      | false =>
        have q' : wpR (lift (truth st d) st) (fun b st' => ∀ W', W'.st = st' → Ext W W' → SRel G W' → Q b W'.H) (Xf G Ww σ W) := q
        rw [e] at q'
        exact q'
  · cases c with
    | true => exact RT.of_run x f' s' q
    | false => exact q W' rfl x s'
theorem sw_or {a b : Expr} {rest : List Expr} {ea eb : Ex} {pos : Pos} (ha : PT X a (RT G Ww C ea)) (hb : PW X (.BoolOp .Or (b :: rest) pos) (RT G Ww C eb)) : PW X (.BoolOp .Or (a :: b :: rest) pos) (RT G Ww C (.or ea eb)) := by
  refine PW.of (pw_or ha hb) fun σ H Q h => ?_
  obtain ⟨W, φ, rfl, f, s, h⟩ := h
  refine RT.step (k := fun c st' => if c = true then (∀ W', W'.st = st' → Ext W W' → SRel G W' → Q true W'.H) else wpR ((evE C eb φ st').bind fun d st => lift (truth st d) st) (fun b st' => ∀ W', W'.st = st' → Ext W W' → SRel G W' → Q b W'.H) (Xf G Ww σ W)) f s ?_ fun c W' q x f' s' => ?_
  · rw [wpR_bind]
    refine wpR_mono (wpR_bind.mp (wpR_bind.mp h)) (fun d st q => ?_) fun _ _ q => q
    cases e : truth st d with
    | none => rw [e] at q; exact q.elim
    | some c =>
      rw [e] at q
      cases c with
      | false => exact wpR_bind.mpr q
      | true =>
        have q' : wpR (lift (truth st d) st) (fun b st' => ∀ W', W'.st = st' → Ext W W' → SRel G W' → Q b W'.H) (Xf G Ww σ W) := q
        rw [e] at q'
        exact q'
  · cases c with
    | false => exact RT.of_run x f' s' q
    | true => exact q W' rfl x s'
theorem se_and {a b : Expr} {rest : List Expr} {ea eb : Ex} {pos : Pos} (hK : X.K = G.K) (ha : PE X a (RE G Ww C ea)) (hb : PE X (.BoolOp .And (b :: rest) pos) (RE G Ww C eb)) : PE X (.BoolOp .And (a :: b :: rest) pos) (RE G Ww C (.and ea eb)) := by
  refine PE.of (pe_andT ha hb) fun σ H Q h => ?_
  obtain ⟨W, φ, rfl, f, s, h⟩ := h
  refine RE.step f s (wpR_bind.mp h) fun d W1 v q x1 f1 s1 r1 => ?_
  cases e : truth W1.st d with
  | none => rw [e] at q; exact q.elim
  | some c =>
    rw [e] at q
    refine ⟨c, by rw [hK]; exact truth_v s1 r1 e, ?_⟩
    cases c with
    | true => exact RE.step f1 s1 (Xf.from x1 q) fun d W2 v l x2 _ s2 r2 => l W2 v rfl (x1.trans x2) s2 r2
    | false => exact (show Lf G W d W1.st Q from q) W1 v rfl x1 s1 r1
theorem se_or {a b : Expr} {rest : List Expr} {ea eb : Ex} {pos : Pos} (hK : X.K = G.K) (ha : PE X a (RE G Ww C ea)) (hb : PE X (.BoolOp .Or (b :: rest) pos) (RE G Ww C eb)) : PE X (.BoolOp .Or (a :: b :: rest) pos) (RE G Ww C (.or ea eb)) := by
  refine PE.of (pe_orT ha hb) fun σ H Q h => ?_
  obtain ⟨W, φ, rfl, f, s, h⟩ := h
  refine RE.step f s (wpR_bind.mp h) fun d W1 v q x1 f1 s1 r1 => ?_
  cases e : truth W1.st d with
  | none => rw [e] at q; exact q.elim
  | some c =>
    rw [e] at q
    refine ⟨c, by rw [hK]; exact truth_v s1 r1 e, ?_⟩
    cases c with
    | false => exact RE.step f1 s1 (Xf.from x1 q) fun d W2 v l x2 _ s2 r2 => l W2 v rfl (x1.trans x2) s2 r2
    | true => exact (show Lf G W d W1.st Q from q) W1 v rfl x1 s1 r1
theorem se_not {e : Expr} {ex : Ex} {pos : Pos} (hK : X.K = G.K) (he : PE X e (RE G Ww C ex)) : PE X (.UnaryOp .Not e pos) (RE G Ww C (.not ex)) := by
  refine PE.of (pe_notT he) fun σ H Q h => ?_
  obtain ⟨W, φ, rfl, f, s, h⟩ := h
  refine RE.step f s (wpR_bind.mp h) fun d W1 v q x1 f1 s1 r1 => ?_
  obtain ⟨b, e, l⟩ := wpR_lift q
  cases e2 : truth W1.st d with
  | none => rw [e2] at e; cases e
  | some c =>
    rw [e2] at e
    cases e
    exact ⟨c, by rw [hK]; exact truth_v s1 r1 e2, l W1 _ rfl x1 s1 (.bl _)⟩
theorem se_idx {a b : Expr} {ea eb : Ex} {pos : Pos} (hK : X.K = G.K) (hu : X.A.units + 65 < cLine) (hp : PlainIx b) (ha : PE X a (RE G Ww C ea)) (hb : PE X b (RE G Ww C eb)) : PE X (.Subscript a b pos) (RE G Ww C (.idx ea eb)) := by
  refine PE.of (pe_ix (ix_idx hK hu) ha hb hp) fun σ H Q h => ?_
  obtain ⟨W, φ, rfl, f, s, h⟩ := h
  refine RE.step f s (wpR_bind.mp h) fun x W1 v1 q1 x1 f1 s1 r1 => ?_
  refine RE.step f1 s1 (Xf.from x1 (wpR_bind.mp q1)) fun y W2 v2 q2 x2 f2 s2 r2 => ?_
  obtain ⟨d, e, l⟩ := wpR_lift q2
  exact ⟨W2, x, y, d, rfl, s2, r1.ext x2, r2, e, l.from (x1.trans x2)⟩
theorem so_none : PO X none (RO G Ww C none) := by
  refine PO.of po_none fun σ H Q h => ?_
  obtain ⟨W, φ, rfl, f, s, h⟩ := h
  exact (show ∀ W', W'.st = W.st → Ext W W' → SRel G W' → Q none W'.H from h) W rfl (.refl W) s
theorem so_some {e : Expr} {ex : Ex} (he : PE X e (RE G Ww C ex)) : PO X (some e) (RO G Ww C (some ex)) := by
  refine PO.of (po_some he) fun σ H Q h => ?_
  obtain ⟨W, φ, rfl, f, s, h⟩ := h
  refine RE.step f s (wpR_bind.mp h) fun x W1 v1 q1 x1 f1 s1 r1 => ?_
  cases r1 with
  | int i => exact ⟨i, rfl, (show ∀ W', W'.st = W1.st → Ext W W' → SRel G W' → Q (some i) W'.H from q1) W1 rfl x1 s1⟩
  | _ => exact (show False from q1).elim
theorem mk_run {W1 : Wl} {m : Bool} {d : D} (h : wpR (OM.mk m d W1.st) (fun d st' => Lf G W d st' Q) (Xf G Ww σ W)) : ∃ d' st', OM.mk m d W1.st = ok d' st' ∧ Lf G W d' st' Q := by
  rcases wpR_run h with ⟨d', st', e, l⟩ | ⟨e, st', e2, l⟩
  · exact ⟨d', st', e, l⟩
  · cases m with
    | false => cases e2
    | true => cases d <;> cases e2
theorem se_slc {m : Bool} {a : Expr} {lo hi : Option Expr} {ea : Ex} {el eh : Option Ex} {pos p2 : Pos} (hK : X.K = G.K) (ha : PE X a (RE G Ww C ea)) (hl : PO X lo (RO G Ww C el)) (hh : PO X hi (RO G Ww C eh)) : PE X (.Subscript a (.Slice lo hi none p2) pos) (RE G Ww C (.slc m ea el eh)) := by
  refine PE.of (pe_slice (sl_slc hK m) ha hl hh) fun σ H Q h => ?_
  obtain ⟨W, φ, rfl, f, s, h⟩ := h
  refine RE.step f s (wpR_bind.mp h) fun x W1 v1 q1 x1 f1 s1 r1 => ?_
  refine RO.step f1 s1 (Xf.from x1 (wpR_bind.mp q1)) fun l W2 q2 x2 f2 s2 => ?_
  refine RO.step f2 s2 (Xf.from (x1.trans x2) (wpR_bind.mp q2)) fun u W3 q3 x3 f3 s3 => ?_
  obtain ⟨d, e, q4⟩ := wpR_lift (wpR_bind.mp q3)
  obtain ⟨d', st', em, lf⟩ := mk_run q4
  exact ⟨W3, x, d, d', st', rfl, s3, (r1.ext x2).ext x3, e, em, lf.from ((x1.trans x2).trans x3)⟩
theorem se_bi {m : Bool} {f : Bi} {x : Str} {id : String} {e : Expr} {es : List Expr} {xs : List Ex} {p pos : Pos} (hc : CallR X (.builtin id) (rBi G m f)) (hg : Gl X x) (hm : X.mg x = none) (hv : bootBuiltins x = some (.builtin id)) (ha : PA X (e :: es) (RA G Ww C xs))
    (hn : x ≠ "__name__") (hdb : (x == ("__debug__" : Str)) = false) (he : starEach (e :: es) X.env = (false, eval e X.env) :: starEach es X.env) (hpl : (backTo pos (starEach es X.env)).any (·.1) = false) : PE X (.Call (.Name x p) (e :: es) [] pos) (RE G Ww C (.bi m f xs)) := by
  refine PE.of (pe_callB hc hg hm hv ha hn hdb he hpl) fun σ H Q h => ?_
  obtain ⟨W, φ, rfl, f, s, h⟩ := h
  refine RA.step f s (wpR_bind.mp h) fun ds W1 vs q1 x1 f1 s1 r1 => ?_
  obtain ⟨d, e, q2⟩ := wpR_lift (wpR_bind.mp q1)
  obtain ⟨d', st', em, lf⟩ := mk_run q2
  exact ⟨W1, ds, d, d', st', rfl, s1, r1, e, em, lf.from x1⟩
theorem se_biT {m : Bool} {f : Bi} {x : Str} {T : String} {e : Expr} {es : List Expr} {xs : List Ex} {p pos : Pos} (hc : CallR X (.type T) (rBi G m f)) (hg : Gl X x) (hm : X.mg x = none) (hv : bootBuiltins x = some (.type T)) (ha : PA X (e :: es) (RA G Ww C xs))
    (hn : x ≠ "__name__") (hdb : (x == ("__debug__" : Str)) = false) (he : starEach (e :: es) X.env = (false, eval e X.env) :: starEach es X.env) (hpl : (backTo pos (starEach es X.env)).any (·.1) = false) : PE X (.Call (.Name x p) (e :: es) [] pos) (RE G Ww C (.bi m f xs)) := by
  refine PE.of (pe_callTy hc hg hm hv ha hn hdb he hpl) fun σ H Q h => ?_
  obtain ⟨W, φ, rfl, f, s, h⟩ := h
  refine RA.step f s (wpR_bind.mp h) fun ds W1 vs q1 x1 f1 s1 r1 => ?_
  obtain ⟨d, e, q2⟩ := wpR_lift (wpR_bind.mp q1)
  obtain ⟨d', st', em, lf⟩ := mk_run q2
  exact ⟨W1, ds, d, d', st', rfl, s1, r1, e, em, lf.from x1⟩
/-- sorted(set(e)) -/
theorem se_sortset {m : Bool} {a : Expr} {ea : Ex} {p p2 pos pos2 : Pos} (hK : X.K = G.K) (hc : X.calm = true) (hu : X.A.units + 64 < cLine) (hg : Gl X "sorted") (hm : X.mg "sorted" = none) (hg2 : Gl X "set") (hm2 : X.mg "set" = none) (ha : PE X a (RE G Ww C ea))
    (hs : starEach [a] X.env = (false, eval a X.env) :: starEach [] X.env) : PE X (.Call (.Name "sorted" p) [.Call (.Name "set" p2) [a] [] pos2] [] pos) (RE G Ww C (.bi m .sortset [ea])) := by
  refine PE.of (pe_callB (cr_sortset hc hu) hg hm (by decide +kernel) (pa_cons (pe_callTy (cr_mkset hc) hg2 hm2 (by decide +kernel) (pa_cons ha pa_nil hs) (by decide) (by decide) hs rfl) pa_nil)) fun σ H Q h => ?_
  obtain ⟨W, φ, rfl, f, s, h⟩ := h
  have h1 : wpR ((evE C ea φ W.st).bind fun d st => (ok ([] : List D) st).bind fun ds st => ok (d :: ds) st) (fun ds st => wpR ((lift (biF st .sortset ds) st).bind fun d st => OM.mk m d st) (fun d st' => Lf G W d st' Q) (Xf G Ww σ W)) (Xf G Ww σ W) := wpR_bind.mp h
  refine RE.step f s (wpR_bind.mp h1) fun d W1 v q1 x1 f1 s1 r1 => ?_
  obtain ⟨d2, e, q2⟩ := wpR_lift (wpR_bind.mp (show wpR ((lift (biF W1.st .sortset [d]) W1.st).bind fun d st => OM.mk m d st) (fun d st' => Lf G W d st' Q) (Xf G Ww σ W) from q1))
  have e' : (match seqOf W1.st d with
    | some xs => match strsOf xs with
      | some ss => if ss.length < 64 then some (D.lst ((sortT (dedup [] ss)).map .str)) else none
      | none => none
    | none => none) = some d2 := e
  cases h2 : seqOf W1.st d with
  | none => rw [h2] at e'; cases e'
  | some xs =>
    rw [h2] at e'
    dsimp only at e'
    cases h3 : strsOf xs with
    | none => rw [h3] at e'; cases e'
    | some ss =>
      rw [h3] at e'
      have e2 : (if ss.length < 64 then some (D.lst ((sortT (dedup [] ss)).map .str)) else none) = some d2 := e'
      by_cases hz : ss.length < 64
      · rw [if_pos hz] at e2
        cases e2
        obtain ⟨pp, rfl, hq, ok⟩ := strs_seq s1 r1 h2 h3
        obtain ⟨d', st', em, lf⟩ := mk_run q2
        refine ⟨pp, ss, rfl, by rw [hK]; exact hq, by omega, fun q hq => ⟨q, _, rfl, upd_same, fun l hl => ?_⟩⟩
        have l1 := (lf.from x1).set (q := q) (o := SetH X.prog X.w q (once ss)) hq
        have okd : ∀ x ∈ sortT (dedup [] ss), TxtOk x := fun x hx => by
          have hx' : x ∈ dedup [] ss := (List.mergeSort_perm _ _).mem_iff.mp hx
          rcases dedup_sub ss [] x hx' with z | z
          · cases z
          · exact ok x z
        have e3 : once ss = dedup [] ss := once_dedup ss []
        rw [e3] at hl l1 ⊢
        exact Lf.mk (W := W1.lay q (SetH X.prog X.w q (dedup [] ss))) em l1 (Wl.lay_s s1 hq) (strs_out okd) l hl
      · rw [if_neg hz] at e2; cases e2
/-- len(set(e)) -/
theorem se_lenset {m : Bool} {a : Expr} {ea : Ex} {p p2 pos pos2 : Pos} (hK : X.K = G.K) (hc : X.calm = true) (hg : Gl X "len") (hm : X.mg "len" = none) (hg2 : Gl X "set") (hm2 : X.mg "set" = none) (ha : PE X a (RE G Ww C ea))
    (hs : starEach [a] X.env = (false, eval a X.env) :: starEach [] X.env) : PE X (.Call (.Name "len" p) [.Call (.Name "set" p2) [a] [] pos2] [] pos) (RE G Ww C (.bi m .lenset [ea])) := by
  refine PE.of (pe_callB cr_lenset hg hm (by decide +kernel) (pa_cons (pe_callTy (cr_mkset hc) hg2 hm2 (by decide +kernel) (pa_cons ha pa_nil hs) (by decide) (by decide) hs rfl) pa_nil)) fun σ H Q h => ?_
  obtain ⟨W, φ, rfl, f, s, h⟩ := h
  have h1 : wpR ((evE C ea φ W.st).bind fun d st => (ok ([] : List D) st).bind fun ds st => ok (d :: ds) st) (fun ds st => wpR ((lift (biF st .lenset ds) st).bind fun d st => OM.mk m d st) (fun d st' => Lf G W d st' Q) (Xf G Ww σ W)) (Xf G Ww σ W) := wpR_bind.mp h
  refine RE.step f s (wpR_bind.mp h1) fun d W1 v q1 x1 f1 s1 r1 => ?_
  obtain ⟨d2, e, q2⟩ := wpR_lift (wpR_bind.mp (show wpR ((lift (biF W1.st .lenset [d]) W1.st).bind fun d st => OM.mk m d st) (fun d st' => Lf G W d st' Q) (Xf G Ww σ W) from q1))
  have e' : (match seqOf W1.st d with
    | some xs => match strsOf xs with
      | some ss => if ss.length < 64 then some (D.int (dedup [] ss).length) else none
      | none => none
    | none => none) = some d2 := e
  cases h2 : seqOf W1.st d with
  | none => rw [h2] at e'; cases e'
  | some xs =>
    rw [h2] at e'
    dsimp only at e'
    cases h3 : strsOf xs with
    | none => rw [h3] at e'; cases e'
    | some ss =>
      rw [h3] at e'
      have e2 : (if ss.length < 64 then some (D.int (dedup [] ss).length) else none) = some d2 := e'
      by_cases hz : ss.length < 64
      · rw [if_pos hz] at e2
        cases e2
        obtain ⟨pp, rfl, hq, ok⟩ := strs_seq s1 r1 h2 h3
        obtain ⟨d', st', em, lf⟩ := mk_run q2
        obtain ⟨rfl, rfl⟩ := mk_flat (fun _ z => by cases z) em
        refine ⟨pp, ss, rfl, by rw [hK]; exact hq, by omega, fun q hq => ⟨q, _, rfl, upd_same, ?_⟩⟩
        have e3 : once ss = dedup [] ss := once_dedup ss []
        rw [e3]
        exact ((lf.from x1).set (q := q) (o := SetH X.prog X.w q (dedup [] ss)) hq) (W1.lay q (SetH X.prog X.w q (dedup [] ss))) _ rfl (.refl _) (Wl.lay_s s1 hq) (.int _)
      · rw [if_neg hz] at e2; cases e2
/-- the classes asked for, by their names -/
def tyOf : Str → Option Ty := fun x => if x = "int" then some .int else if x = "bool" then some .bool else if x = "str" then some .str else if x = "tuple" then some .tuple else if x = "list" then some .list else none
theorem boot_ty {x : Str} {t : Ty} (h : tyOf x = some t) : bootBuiltins x = some (.type t.nm) ∧ x ≠ "__name__" ∧ (x == ("__debug__" : Str)) = false := by
  unfold tyOf at h
  by_cases h1 : x = "int"
  · rw [if_pos h1] at h; cases h; subst h1; exact ⟨by decide +kernel, by decide, by decide⟩
  · rw [if_neg h1] at h
    by_cases h2 : x = "bool"
    · rw [if_pos h2] at h; cases h; subst h2; exact ⟨by decide +kernel, by decide, by decide⟩
    · rw [if_neg h2] at h
      by_cases h3 : x = "str"
      · rw [if_pos h3] at h; cases h; subst h3; exact ⟨by decide +kernel, by decide, by decide⟩
      · rw [if_neg h3] at h
        by_cases h4 : x = "tuple"
        · rw [if_pos h4] at h; cases h; subst h4; exact ⟨by decide +kernel, by decide, by decide⟩
        · rw [if_neg h4] at h
          by_cases h5 : x = "list"
          · rw [if_pos h5] at h; cases h; subst h5; exact ⟨by decide +kernel, by decide, by decide⟩
          · rw [if_neg h5] at h; cases h
theorem pe_ty {x : Str} {t : Ty} {pos : Pos} (h : tyOf x = some t) (hg : Gl X x) (hm : X.mg x = none) : PE X (.Name x pos) (tC (.ty t.nm)) :=
  let ⟨a, b, c⟩ := boot_ty h
  pe_bltn hg hm a rfl b c
theorem se_isi {a : Expr} {ea : Ex} {x : Str} {t : Ty} {p p2 pos : Pos} (hK : X.K = G.K) (hg : Gl X "isinstance") (hm : X.mg "isinstance" = none) (ht : tyOf x = some t) (hg2 : Gl X x) (hm2 : X.mg x = none) (ha : PE X a (RE G Ww C ea))
    (hs : starEach [a, .Name x p2] X.env = (false, eval a X.env) :: starEach [.Name x p2] X.env) : PE X (.Call (.Name "isinstance" p) [a, .Name x p2] [] pos) (RE G Ww C (.isi ea [t])) := by
  refine PE.of (pe_callB call_isi hg hm (by decide +kernel) (pa_cons ha (pa_cons (pe_ty ht hg2 hm2) pa_nil) hs) (by decide) (by decide) hs rfl) fun σ H Q h => ?_
  obtain ⟨W, φ, rfl, f, s, h⟩ := h
  refine RE.step f s (wpR_bind.mp h) fun d W1 v q1 x1 f1 s1 r1 => ?_
  obtain ⟨d2, e, lf⟩ := wpR_lift q1
  cases ek : isTys W1.st d [t] with
  | none => rw [ek] at e; cases e
  | some k =>
    rw [ek] at e
    cases e
    have ek' : (match isTy W1.st d t with
      | none => none
      | some true => some true
      | some false => some false) = some k := ek
    cases et : isTy W1.st d t with
    | none => rw [et] at ek'; cases ek'
    | some b =>
      rw [et] at ek'
      have eb : b = k := by cases b <;> exact Option.some.inj ek'
      subst eb
      obtain ⟨n, ty, kb, _⟩ := ty_of s1 r1 et
      exact ⟨v, .ty t.nm, .type n, .type t.nm, b, rfl, .ty _, by rw [hK]; exact ty, kit_ty kb, lf W1 _ rfl x1 s1 (.bl _)⟩
/-- the names of a tuple of classes -/
def tysOf : List Expr → Option (List Ty)
  | [] => some []
  | .Name x _ :: r => match tyOf x, tysOf r with
    | some t, some ts => some (t :: ts)
    | _, _ => none
  | _ :: _ => none
def tyT : List Ty → TA
  | [] => tNil
  | t :: ts => tCons (tC (.ty t.nm)) (tyT ts)
theorem pa_tys : ∀ {es : List Expr} {ts : List Ty}, tysOf es = some ts → (∀ x p, Expr.Name x p ∈ es → Gl X x ∧ X.mg x = none) → PA X es (tyT ts)
  | [], ts, h, _ => by cases h; exact pa_nil
  | .Name x p :: r, ts, h, k => by
    have h' : (match tyOf x, tysOf r with
      | some t, some ts => some (t :: ts)
      | _, _ => none) = some ts := h
    cases h1 : tyOf x with
    | none => rw [h1] at h'; cases h'
    | some t =>
      cases h2 : tysOf r with
      | none => rw [h1, h2] at h'; cases h'
      | some ts' =>
        rw [h1, h2] at h'
        cases h'
        exact pa_cons (pe_ty h1 (k x p (by simp)).1 (k x p (by simp)).2) (pa_tys h2 fun y q hy => k y q (by simp [hy]))
  | .BoolOp .. :: _, _, h, _ => by cases h
  | .NamedExpr .. :: _, _, h, _ => by cases h
  | .BinOp .. :: _, _, h, _ => by cases h
  | .UnaryOp .. :: _, _, h, _ => by cases h
  | .Lambda .. :: _, _, h, _ => by cases h
  | .IfExp .. :: _, _, h, _ => by cases h
  | .Dict .. :: _, _, h, _ => by cases h
  | .Set .. :: _, _, h, _ => by cases h
  | .ListComp .. :: _, _, h, _ => by cases h
  | .SetComp .. :: _, _, h, _ => by cases h
  | .DictComp .. :: _, _, h, _ => by cases h
  | .GeneratorExp .. :: _, _, h, _ => by cases h
  | .Await .. :: _, _, h, _ => by cases h
  | .Yield .. :: _, _, h, _ => by cases h
  | .YieldFrom .. :: _, _, h, _ => by cases h
  | .Compare .. :: _, _, h, _ => by cases h
  | .Call .. :: _, _, h, _ => by cases h
  | .FormattedValue .. :: _, _, h, _ => by cases h
  | .JoinedStr .. :: _, _, h, _ => by cases h
  | .Constant .. :: _, _, h, _ => by cases h
  | .Attribute .. :: _, _, h, _ => by cases h
  | .Subscript .. :: _, _, h, _ => by cases h
  | .Starred .. :: _, _, h, _ => by cases h
  | .List .. :: _, _, h, _ => by cases h
  | .Tuple .. :: _, _, h, _ => by cases h
  | .Slice .. :: _, _, h, _ => by cases h
theorem tyT_run : ∀ {ts : List Ty} {H : Hp} {Q : List V → Hp → Prop}, Q (ts.map fun t => .ty t.nm) H → tyT ts σ H Q
  | [], _, _, h => h
  | t :: ts, H, Q, h => tyT_run (ts := ts) (Q := fun xs H2 => Q (.ty t.nm :: xs) H2) h
theorem paired_ty : ∀ ts : List Ty, Paired ClsV (ts.map fun t => V.ty t.nm) (ts.map fun t => Value.type t.nm)
  | [] => .nil
  | t :: ts => .cons (.ty _) (paired_ty ts)
theorem se_isiT {a : Expr} {ea : Ex} {es : List Expr} {ts : List Ty} {k : Nat} {p p2 pos : Pos} (hK : X.K = G.K) (hg : Gl X "isinstance") (hm : X.mg "isinstance" = none) (ht : tysOf es = some ts) (hes : ∀ x p, Expr.Name x p ∈ es → Gl X x ∧ X.mg x = none) (hz : ts.length ≤ 100) (hne : ts ≠ []) (ha : PE X a (RE G Ww C ea))
    (hs : starEach [a, .Tuple es k p2] X.env = (false, eval a X.env) :: starEach [.Tuple es k p2] X.env) : PE X (.Call (.Name "isinstance" p) [a, .Tuple es k p2] [] pos) (RE G Ww C (.isi ea ts)) := by
  refine PE.of (pe_callB call_isiT hg hm (by decide +kernel) (pa_cons ha (pa_cons (pe_tup (pa_tys ht hes)) pa_nil) hs) (by decide) (by decide) hs rfl) fun σ H Q h => ?_
  obtain ⟨W, φ, rfl, f, s, h⟩ := h
  refine RE.step f s (wpR_bind.mp h) fun d W1 v q1 x1 f1 s1 r1 => ?_
  obtain ⟨d2, e, lf⟩ := wpR_lift q1
  cases ek : isTys W1.st d ts with
  | none => rw [ek] at e; cases e
  | some b =>
    rw [ek] at e
    cases e
    refine tyT_run ⟨by rw [List.length_map]; exact Nat.le_trans hz (by decide), fun tp htp => ?_⟩
    have x2 := W1.lay_ext (o := .tup (ts.map fun t => .ty t.nm)) htp
    have s2 := Wl.lay_s (o := .tup (ts.map fun t => .ty t.nm)) s1 htp
    have r2 := r1.ext x2
    obtain ⟨t, ts', rfl⟩ : ∃ t ts', ts = t :: ts' := by
      cases ts with
      | nil => exact absurd rfl hne
      | cons t ts' => exact ⟨t, ts', rfl⟩
    cases et : isTy W1.st d t with
    | none =>
      have ek' : (match isTy W1.st d t with
        | none => none
        | some true => some true
        | some false => isTys W1.st d ts') = some b := ek
      rw [et] at ek'
      cases ek'
    | some b0 =>
      obtain ⟨n, ty, kb, all⟩ := ty_of (W := W1.lay tp (.tup ((t :: ts').map fun t => .ty t.nm))) s2 r2 et
      exact ⟨v, tp, _, .type n, _, b, rfl, upd_same, paired_ty _, by rw [hK]; exact ty, by rw [hK]; exact isTys_kit all ek, (lf.from x1) (W1.lay tp (.tup ((t :: ts').map fun t : Ty => V.ty t.nm))) _ rfl x2 s2 (.bl _)⟩
/-- a + b, a * n of lists, to be changed later -/
theorem se_catm {a b : Expr} {ea eb : Ex} {pos : Pos} (ha : PE X a (RE G Ww C ea)) (hb : PE X b (RE G Ww C eb)) : PE X (.BinOp a .Add b pos) (RE G Ww C (.catm ea eb)) := by
  refine PE.of (pe_op op_cat ha hb) fun σ H Q h => ?_
  obtain ⟨W, φ, rfl, f, s, h⟩ := h
  refine RE.step f s (wpR_bind.mp h) fun x W1 v1 q1 x1 f1 s1 r1 => ?_
  refine RE.step f1 s1 (Xf.from x1 (wpR_bind.mp q1)) fun y W2 v2 q2 x2 f2 s2 r2 => ?_
  cases h1 : listOf W2.st x with
  | none => rw [h1] at q2; exact q2.elim
  | some xs =>
    cases h2 : listOf W2.st y with
    | none => rw [h1, h2] at q2; exact q2.elim
    | some ys =>
      rw [h1, h2] at q2
      have q3 : wpR (if xs.length + ys.length ≤ line then OM.mk true (.lst (xs ++ ys)) W2.st else none) (fun d st' => Lf G W d st' Q) (Xf G Ww σ W) := q2
      obtain ⟨p, vs, rfl, hp, r3⟩ := list_at s2 (r1.ext x2) h1
      obtain ⟨q, us, rfl, hq, r4⟩ := list_at s2 r2 h2
      by_cases hz : xs.length + ys.length ≤ line
      · rw [if_pos hz] at q3
        refine ⟨p, q, vs, us, rfl, rfl, hp, hq, by rw [← r3.length, ← r4.length, ← line_eq]; exact hz, fun l hl => Lf.mk' (x1.trans x2) s2 q3 (r3.append r4) l hl⟩
      · rw [if_neg hz] at q3; exact q3.elim
theorem se_repm {a b : Expr} {ea eb : Ex} {pos : Pos} (ha : PE X a (RE G Ww C ea)) (hb : PE X b (RE G Ww C eb)) : PE X (.BinOp a .Mult b pos) (RE G Ww C (.repm ea eb)) := by
  refine PE.of (pe_op op_rep ha hb) fun σ H Q h => ?_
  obtain ⟨W, φ, rfl, f, s, h⟩ := h
  refine RE.step f s (wpR_bind.mp h) fun x W1 v1 q1 x1 f1 s1 r1 => ?_
  refine RE.step f1 s1 (Xf.from x1 (wpR_bind.mp q1)) fun y W2 v2 q2 x2 f2 s2 r2 => ?_
  cases h1 : listOf W2.st x with
  | none => rw [h1] at q2; exact q2.elim
  | some xs =>
    obtain ⟨p, vs, rfl, hp, r3⟩ := list_at s2 (r1.ext x2) h1
    cases r2 with
    | int j =>
      rw [h1] at q2
      have q3 : wpR (if 0 ≤ j ∧ xs.length * j.toNat ≤ 4096 ∧ j ≤ 4096 then OM.mk true (.lst ((List.replicate j.toNat xs).flatten)) W2.st else none) (fun d st' => Lf G W d st' Q) (Xf G Ww σ W) := q2
      by_cases hz : 0 ≤ j ∧ xs.length * j.toNat ≤ 4096 ∧ j ≤ 4096
      · rw [if_pos hz] at q3
        have hl : vs.length * j.toNat ≤ sizeLine := by rw [← r3.length]; exact Nat.le_trans hz.2.1 (by decide)
        exact ⟨p, j, vs, rfl, rfl, hp, by omega, by omega, hl, fun l hl => Lf.mk' (x1.trans x2) s2 q3 (r3.flat _) l hl⟩
      · rw [if_neg hz] at q3; exact q3.elim
    | _ => rw [h1] at q2; exact q2.elim
end
end OM
namespace OM
open PySem PySem.Spec L2
set_option maxRecDepth 8000 in
theorem extend_tup (l : Addr) (items : Array Value) (n : Nat) (b : Addr) (items2 : Array Value) (n2 : Nat) (dd : Option Addr) (sl : Array (Option Value)) (hs0 : ¬(!items.isEmpty && Builtin.List.listTooLong (items.size + items2.size)) = true) (hs1 : items.size ≤ sizeLine) (hs2 : items.size + items2.size ≤ sizeLine + 1) :
    Meets (Builtin.«list.extend» ⟨[.ref l, .ref b], []⟩) (fun _ R s => s.heap.get? l = some { cls := .type "list", dict := none, data := .seq items n, slots := #[] } ∧ s.heap.get? b = some { cls := .type "tuple", dict := dd, data := .seq items2 n2, slots := sl } ∧ R (.ok (.ret Value.none)) { s with heap := s.heap.update l (Obj.mapSeq fun x => x ++ items2), toks := s.toks }) :=
  .of_wp fun prog w A R s h => by
    obtain ⟨hp, g, d, tk, os⟩ := s
    obtain ⟨hl, hb, h⟩ := h
    have f1 := AutoSeq1.idx_int
    have f2 := AutoSeq1.sub_tuple_tuple
    have f3 := AutoSeq1.sub_list_list
    have f4 := AutoSeq1.sub_tuple_list
    have f5 := AutoSeq1.sub_list_tuple
    have hz' : (items ++ items2).size ≤ sizeLine + 1 := by rw [Array.size_append]; exact hs2
    wp_walk using (wpAny_updateSeq hl rfl (hz := hs1) (_hz' := hz')), AutoSeq1.wpAny_loadPart' hl, AutoSeq1.wpAny_loadPart' hb
    exact ⟨_, rfl, h⟩
section
variable {X : Cx}
def rExtendT (K : PySem.W.Frag) : V → List V → Hp → VK → Prop := fun x vs H Q => ∃ l b xs zs, x = .ref l ∧ vs = [.ref b] ∧ H l = some (.lst xs) ∧ SqT K H b zs ∧ xs.length + zs.length ≤ sizeLine ∧ Q .non (upd H l (.lst (xs ++ zs)))
theorem mt_extendT : MtR X "list.extend" (rExtendT X.K) := by
  intro pins s σ H x vs v us Q I rx rv h
  obtain ⟨l, b, xs, zs, rfl, rfl, hH, hB, hz, q⟩ := h
  cases rx
  cases rv with
  | cons ru rn =>
    cases rn
    cases ru
    obtain ⟨z, its, n, r, hl, e⟩ := I.lstM hH
    obtain ⟨its2, r2, ⟨o2, ho2, hc2, n2, hd2⟩, hz2⟩ := I.tuple hB
    obtain ⟨cls2, dd2, data2, sl2⟩ := o2
    simp only at hc2 hd2
    subst hc2 hd2
    have e2 := r2.length
    have hsz : its.toArray.size + its2.toArray.size ≤ sizeLine := by rw [List.size_toArray, List.size_toArray]; omega
    have hlong : ¬ (!its.toArray.isEmpty && Builtin.List.listTooLong (its.toArray.size + its2.toArray.size)) = true := by
      rw [L2.notLongL hsz, Bool.and_false]
      exact Bool.false_ne_true
    refine call_meets F.slot_list_extend ⟨_, e, rfl⟩ F.entry_list_extend (F.args_list_extend_2 _ _) (extend_tup l its.toArray n b its2.toArray n2 dd2 sl2 hlong (by rw [List.size_toArray]; omega) (by omega)) ⟨e, ho2, ?_⟩
    refine ⟨.non, _, I.lset (its' := its ++ its2) hH e (by simp) (r.append r2) ?_, rfl, q⟩
    rw [List.length_append]
    omega
end
section
variable {G : GX} {Ww : WX} {C : Calls} {X : Cx} {W : Wl} {φ : Fr} {σ : L2.St} {Q : VK}
/-- a method by values -/
def rMt (G : GX) (f : Mt) : V → List V → Hp → VK → Prop := fun x vs H Q => ∃ W a ds d st', W.H = H ∧ SRel G W ∧ Rel G W a x ∧ RelL G W ds vs ∧ mtF W.st f a ds = some (d, st') ∧ Lf G W d st' Q
theorem Lf.turn {n : Nat} {o : Ob} {ds : List D} {vs : List V} {d : D} {v : V} (l : Lf G W d (W.st.put n (some (.lst ds))) Q) (s : SRel G W) (g : W.st.get n = some o) (r : RelL G W ds vs) (rd : Rel G W d v) : Q v (upd W.H (W.al n) (.lst vs)) :=
  l (W.turn n ds vs) v rfl (W.turn_ext s g) (Wl.turn_s s g r) (rd.ext (W.turn_ext s g))
theorem tyV_list {W1 : Wl} {n : Nat} {xs : List D} (s : SRel G W1) (g : W1.st.get n = some (.lst xs)) (hK : X.K = G.K) : tyV X.K "list" (.ref (W1.al n)) W1.H := by
  cases s.ob n _ g with
  | lst h r => exact .inl ⟨rfl, _, .inl (.inl h)⟩
theorem mr_append (hK : X.K = G.K) : MtR X "list.append" (rMt G .append) := by
  intro pins s σ H x vs v us Q I rx rv h
  obtain ⟨W, a, ds, d, st', rfl, hs, ra, rd, e, lf⟩ := h
  cases ra with
  | ref n hn =>
    cases rd with
    | cons ry rn =>
      cases rn with
      | nil =>
        rename_i y vy
        obtain ⟨xs, g, e2⟩ := get_lst (f := fun xs => if xs.length < line then some (D.non, W.st.put n (some (.lst (xs ++ [y])))) else none) e
        by_cases hz : xs.length < line
        · rw [if_pos hz] at e2
          cases e2
          cases hs.ob n _ g with
          | lst hH r =>
            exact mt_append pins s σ W.H _ _ v us Q I rx rv ⟨_, _, vy, rfl, rfl, hH, by rw [← r.length, ← line_eq]; exact hz, Lf.turn lf hs g (r.append (.cons ry .nil)) .non⟩
        · rw [if_neg hz] at e2; cases e2
      | cons _ _ => cases e
    | nil => cases e
  | _ => cases rd <;> first | (cases e; done) | (rename_i rn; cases rn <;> cases e)
theorem mr_pop1 (hK : X.K = G.K) : MtR X "list.pop" (rMt G .pop1) := by
  intro pins s σ H x vs v us Q I rx rv h
  obtain ⟨W, a, ds, d, st', rfl, hs, ra, rd, e, lf⟩ := h
  cases ra with
  | ref n hn =>
    cases rd with
    | cons ry rn =>
      cases rn with
      | nil =>
        cases ry with
        | int i =>
          obtain ⟨xs, g, e2⟩ := get_lst (f := fun xs => if 0 ≤ i ∧ i < 2 ^ 62 then match xs[i.toNat]? with
            | some x => some (x, W.st.put n (some (.lst (xs.eraseIdx i.toNat))))
            | none => none
          else none) e
          by_cases hz : 0 ≤ i ∧ i < 2 ^ 62
          · rw [if_pos hz] at e2
            cases hx : xs[i.toNat]? with
            | none => rw [hx] at e2; cases e2
            | some x =>
              rw [hx] at e2
              cases e2
              cases hs.ob n _ g with
              | lst hH r =>
                obtain ⟨vx, hvx, rx'⟩ := r.get hx
                have hlt : i.toNat < xs.length := (List.getElem?_eq_some_iff.mp hx).1
                have hsi : seqIndex? i _ = some i.toNat := (ixN_seq (n := xs.length) (i := i) (by unfold L2.ixN; rw [if_pos hz.1, if_pos (by omega)])).1
                rw [r.length] at hsi
                exact mt_popAt pins s σ W.H _ _ v us Q I rx rv ⟨_, _, i, i.toNat, vx, rfl, rfl, hH, by omega, by omega, hsi, hvx, Lf.turn lf hs g (r.erase _) rx'⟩
          · rw [if_neg hz] at e2; cases e2
        | _ => cases e
      | cons _ _ => cases ry <;> cases e
    | nil => cases e
  | _ => cases rd <;> first | (cases e; done) | (rename_i ry rn; cases ry <;> cases rn <;> cases e)
theorem mr_insert (hK : X.K = G.K) : MtR X "list.insert" (rMt G .insert) := by
  intro pins s σ H x vs v us Q I rx rv h
  obtain ⟨W, a, ds, d, st', rfl, hs, ra, rd, e, lf⟩ := h
  cases ra with
  | ref n hn =>
    cases rd with
    | cons ri rn =>
      cases rn with
      | nil => cases ri <;> cases e
      | cons ry rm =>
        cases rm with
        | nil =>
          cases ri with
          | int i =>
            rename_i y vy
            obtain ⟨xs, g, e2⟩ := get_lst (f := fun xs => if 0 ≤ i ∧ i ≤ xs.length ∧ xs.length < line then some (D.non, W.st.put n (some (.lst (xs.take i.toNat ++ y :: xs.drop i.toNat)))) else none) e
            by_cases hz : 0 ≤ i ∧ i ≤ xs.length ∧ xs.length < line
            · rw [if_pos hz] at e2
              cases e2
              cases hs.ob n _ g with
              | lst hH r =>
                have hl : line < 2 ^ 62 := by decide
                refine L2.mt_insert pins s σ W.H _ _ v us Q I rx rv ⟨_, _, i, vy, rfl, rfl, hH, by rw [← r.length, ← line_eq]; exact hz.2.2, hz.1, by omega, ?_⟩
                have e3 : ∀ (l : List V), l.take i.toNat ++ [vy] ++ l.drop i.toNat = l.take i.toNat ++ vy :: l.drop i.toNat := fun l => by simp
                rw [e3]
                exact Lf.turn lf hs g ((r.take _).append (.cons ry (r.drop _))) .non
            · rw [if_neg hz] at e2; cases e2
          | _ => cases e
        | cons _ _ => cases ri <;> cases e
    | nil => cases e
  | _ => cases rd <;> first | (cases e; done) | (rename_i ry rn; cases ry <;> cases rn <;> first | (cases e; done) | (rename_i rm; cases rm <;> cases e))
theorem mr_extend (hK : X.K = G.K) : MtR X "list.extend" (rMt G .extend) := by
  intro pins s σ H x vs v us Q I rx rv h
  obtain ⟨W, a, ds, d, st', rfl, hs, ra, rd, e, lf⟩ := h
  cases ra with
  | ref n hn =>
    cases rd with
    | cons ry rn =>
      cases rn with
      | nil =>
        rename_i y vy
        have e' : (match W.st.get n, seqOf W.st y with
          | some (.lst xs), some ys => if xs.length + ys.length ≤ line then some (D.non, W.st.put n (some (.lst (xs ++ ys)))) else none
          | _, _ => none) = some (d, st') := e
        cases g : W.st.get n with
        | none => rw [g] at e'; cases e'
        | some o =>
          cases o with
          | dct _ _ => rw [g] at e'; cases e'
          | obj _ _ _ => rw [g] at e'; cases e'
          | lst xs =>
            cases hy : seqOf W.st y with
            | none => rw [g, hy] at e'; cases e'
            | some ys =>
              rw [g, hy] at e'
              dsimp only at e'
              by_cases hz : xs.length + ys.length ≤ line
              · rw [if_pos hz] at e'
                cases e'
                cases hs.ob n _ g with
                | lst hH r =>
                  obtain ⟨p, zs, rfl, rz, hq⟩ := seq_at hs ry hy
                  have hz' : ∀ l : List V, RelL G W xs l → l.length + zs.length ≤ sizeLine := fun l rl => by rw [← rl.length, ← rz.length, ← line_eq]; exact hz
                  rcases hq with hq | hq
                  · exact mt_extend pins s σ W.H _ _ v us Q I rx rv ⟨_, p, _, zs, rfl, rfl, hH, hq, hz' _ r, Lf.turn lf hs g (r.append rz) .non⟩
                  · exact mt_extendT pins s σ W.H _ _ v us Q I rx rv ⟨_, p, _, zs, rfl, rfl, hH, by rw [hK]; exact hq, hz' _ r, Lf.turn lf hs g (r.append rz) .non⟩
              · rw [if_neg hz] at e'; cases e'
      | cons _ _ => cases e
    | nil => cases e
  | _ => cases rd <;> first | (cases e; done) | (rename_i rn; cases rn <;> cases e)
theorem lst_ty {W1 : Wl} {a : D} {v : V} (hK : X.K = G.K) (s : SRel G W1) (r : Rel G W1 a v) (h : isLst W1.st a = true) : tyV X.K "list" v W1.H := by
  cases r with
  | ref n hn =>
    have h' : (match W1.st.get n with
      | some (.lst _) => true
      | _ => false) = true := h
    cases g : W1.st.get n with
    | none => rw [g] at h'; cases h'
    | some o =>
      cases o with
      | lst xs => exact tyV_list (X := X) s g hK
      | dct _ _ => rw [g] at h'; cases h'
      | obj _ _ _ => rw [g] at h'; cases h'
  | _ => cases h
/-- o.m(..) of a list -/
theorem se_mtL {f : Mt} {id : String} {m : Str} {o e : Expr} {es : List Expr} {eo : Ex} {xs : List Ex} {apos cpos : Pos} (hK : X.K = G.K) (hf : f.ofList = true) (slot : Slot "list" m id) (hty : typeOf (.builtin id) = pure (.type "method_descriptor")) (hm : MtR X id (rMt G f))
    (ho : PE X o (RE G Ww C eo)) (ha : PA X (e :: es) (RA G Ww C xs))
    (hbase : attributeBase o m X.env (eval o X.env) = eval o X.env)
    (hfew : ((backTo cpos (starEach (e :: es) X.env)).all (fun x => !x.1) && (backToKw cpos (keywordEach [] X.env)).all (fun x => x.1.isSome)
      && decide ((e :: es).length + ([] : List Keyword).length + (if ([] : List Keyword).isEmpty then 0 else 1) < 30)) = true)
    (hline : (apos.endLine == cpos.line) = true) (hs : starEach (e :: es) X.env = (false, eval e X.env) :: starEach es X.env) (hplain : (backTo cpos (starEach es X.env)).any (·.1) = false) :
    PE X (.Call (.Attribute o m apos) (e :: es) [] cpos) (RE G Ww C (.mt f eo xs)) := by
  refine PE.of (pe_bm PySem.F.plainAttrs_list slot hty hm ho ha hbase hfew hline hs hplain) fun σ H Q h => ?_
  obtain ⟨W, φ, rfl, fr, s, h⟩ := h
  refine RE.step fr s (wpR_bind.mp h) fun a W1 v q1 x1 f1 s1 r1 => ?_
  by_cases hr : rcvOk W1.st f a = true
  · rw [if_pos hr] at q1
    unfold rcvOk at hr
    rw [if_pos hf] at hr
    refine ⟨lst_ty (X := X) hK s1 r1 hr, RA.step f1 s1 (Xf.from x1 (wpR_bind.mp q1)) fun ds W2 vs q2 x2 f2 s2 r2 => ?_⟩
    cases em : mtF W2.st f a ds with
    | none => rw [em] at q2; exact q2.elim
    | some o =>
      obtain ⟨d, st'⟩ := o
      rw [em] at q2
      exact ⟨W2, a, ds, d, st', rfl, s2, r1.ext x2, r2, em, (show Lf G W d st' Q from q2).from (x1.trans x2)⟩
  · rw [if_neg hr] at q1; exact q1.elim
theorem join_step (sep x y : Str) (r : List Str) : Str.join sep (x :: y :: r) = x ++ sep ++ Str.join sep (y :: r) := rfl
theorem join_eq (sep : Str) (xs : List Str) : Txt.join sep xs = Str.join sep xs := PySem.StrLaws.glued_eq_join sep xs
theorem join_ok {sep : Str} (hs : TxtOk sep) : ∀ {xs : List Str}, (∀ x ∈ xs, TxtOk x) → (xs.map (·.length)).sum + xs.length * sep.length ≤ sizeLine → TxtOk (Str.join sep xs) := by
  intro xs h hz
  refine ⟨?_, Nat.le_trans (PySem.StrLaws.join_length_le sep xs) hz⟩
  clear hz
  induction xs with
  | nil => exact (strOk_list (l := [])).trans rfl
  | cons x r ih =>
    cases r with
    | nil => exact (h x (by simp)).1
    | cons y r =>
      rw [join_step]
      exact strOk_append (strOk_append (h x (by simp)).1 hs.1) (ih fun z hz => h z (by simp at hz ⊢; exact .inr hz))
/-- sep.join(..) -/
theorem se_join {o e : Expr} {eo ee : Ex} {apos pos : Pos} (hK : X.K = G.K) (ho : PE X o (RE G Ww C eo)) (he : PE X e (RE G Ww C ee)) (hs : starEach [e] X.env = [(false, eval e X.env)]) (hbase : attributeBase o "join" X.env (eval o X.env) = eval o X.env) (hline : (apos.endLine == pos.line) = true) :
    PE X (.Call (.Attribute o "join" apos) [e] [] pos) (RE G Ww C (.mt .join eo [ee])) := by
  refine PE.of (pe_join ho he hs hbase hline) fun σ H Q h => ?_
  obtain ⟨W, φ, rfl, fr, s, h⟩ := h
  refine RE.step fr s (wpR_bind.mp h) fun a W1 v q1 x1 f1 s1 r1 => ?_
  by_cases hr : rcvOk W1.st .join a = true
  · rw [if_pos hr] at q1
    have hr' : isTxt a = true := hr
    cases r1 with
    | str x hx =>
      refine ⟨⟨x, rfl⟩, ?_⟩
      have q1' := wpR_bind.mp q1
      have q1'' : wpR ((evE C ee φ W1.st).bind fun d st => (ok ([] : List D) st).bind fun ds st => ok (d :: ds) st) _ (Xf G Ww σ W) := q1'
      refine RE.step f1 s1 (Xf.from x1 (wpR_bind.mp q1'')) fun d W2 v2 q2 x2 f2 s2 r2 => ?_
      cases em : mtF W2.st .join (.str x) [d] with
      | none =>
        have q2' : wpR (match mtF W2.st .join (.str x) [d] with
          | some (d, st') => ok d st'
          | none => none) (fun d st' => Lf G W d st' Q) (Xf G Ww σ W) := q2
        rw [em] at q2'
        exact q2'.elim
      | some o =>
        obtain ⟨d', st'⟩ := o
        have q2' : wpR (match mtF W2.st .join (.str x) [d] with
          | some (d, st') => ok d st'
          | none => none) (fun d st' => Lf G W d st' Q) (Xf G Ww σ W) := q2
        rw [em] at q2'
        have lf : Lf G W d' st' Q := q2'
        have em' : (match seqOf W2.st d with
          | some xs => match strsOf xs with
            | some ss => if ss.length + x.length * ss.length + (ss.map (·.length)).sum ≤ line then some (D.str (Str.join x ss), W2.st) else none
            | none => none
          | none => none) = some (d', st') := em
        cases h2 : seqOf W2.st d with
        | none => rw [h2] at em'; cases em'
        | some xs =>
          rw [h2] at em'
          dsimp only at em'
          cases h3 : strsOf xs with
          | none => rw [h3] at em'; cases em'
          | some ss =>
            rw [h3] at em'
            dsimp only at em'
            by_cases hz : ss.length + x.length * ss.length + (ss.map (·.length)).sum ≤ line
            · rw [if_pos hz] at em'
              cases em'
              obtain ⟨pp, rfl, hq, okk⟩ := strs_seq s2 r2 h2 h3
              have hl : line = 16777216 := rfl
              have hmul : x.length * ss.length = ss.length * x.length := Nat.mul_comm _ _
              refine ⟨x, pp, ss, rfl, rfl, by rw [hK]; exact hq, by omega, ?_⟩
              have ej : Txt.join x ss = Str.join x ss := join_eq x ss
              rw [ej]
              exact (lf.from (x1.trans x2)).here s2 (.str _ (join_ok hx okk (by rw [← line_eq]; omega)))
            · rw [if_neg hz] at em'; cases em'
    | _ => cases hr'
  · rw [if_neg hr] at q1; exact q1.elim
/-- .upper() of signs below 128 -/
theorem se_upper {o : Expr} {eo : Ex} {apos pos : Pos} (ho : PE X o (RE G Ww C eo)) (hbase : attributeBase o "upper" X.env (eval o X.env) = eval o X.env) (hline : (apos.endLine == pos.line) = true) :
    PE X (.Call (.Attribute o "upper" apos) [] [] pos) (RE G Ww C (.mt .upper eo [])) := by
  refine PE.of (pe_upper ho hbase hline) fun σ H Q h => ?_
  obtain ⟨W, φ, rfl, fr, s, h⟩ := h
  refine RE.step fr s (wpR_bind.mp h) fun a W1 v q1 x1 f1 s1 r1 => ?_
  by_cases hr : rcvOk W1.st .upper a = true
  · rw [if_pos hr] at q1
    have hr' : isTxt a = true := hr
    cases r1 with
    | str x hx =>
      refine ⟨⟨x, rfl⟩, x, rfl, rfl, ?_⟩
      have q2 : wpR (match (if x.cps.all (· < 128) && decide (x.length ≤ 1000000) then some (D.str ⟨x.cps.map fun c => if 97 ≤ c ∧ c ≤ 122 then c - 32 else c⟩, W1.st) else none) with
        | some (d, st') => ok d st'
        | none => none) (fun d st' => Lf G W d st' Q) (Xf G Ww σ W) := q1
      by_cases hc : (x.cps.all (· < 128) && decide (x.length ≤ 1000000)) = true
      · rw [if_pos hc] at q2
        rw [Bool.and_eq_true, decide_eq_true_eq] at hc
        have low : ∀ c ∈ x.cps.toList, c < 128 := fun c hcc => by
          have z := Array.all_eq_true'.mp hc.1 c (Array.mem_toList_iff.mp hcc)
          exact of_decide_eq_true z
        have e := PyProof.Rows.upper_ascii low
        refine ⟨by omega, ?_⟩
        rw [e]
        have lf : Lf G W (.str ⟨x.cps.map PyProof.Rows.up1⟩) W1.st Q := q2
        refine lf W1 _ rfl x1 s1 (.str _ ⟨?_, ?_⟩)
        · refine strOk_mem.mpr fun c hcc => ?_
          have hcc' : c ∈ x.cps.toList.map PyProof.Rows.up1 := by simpa using hcc
          obtain ⟨d, hd, rfl⟩ := List.mem_map.mp hcc'
          have := low d hd
          unfold PyProof.Rows.up1
          split <;> omega
        · show (x.cps.map PyProof.Rows.up1).size ≤ sizeLine
          rw [Array.size_map]
          exact hx.2
      · rw [if_neg hc] at q2
        exact q2.elim
    | _ => cases hr'
  · rw [if_neg hr] at q1
    exact q1.elim
end
end OM
namespace OM
open PySem PySem.Spec L2
/-- no star, as a matter of form -/
def noStar : Expr → Bool
  | .Starred .. => false
  | _ => true
theorem star_of {e : Expr} {es : List Expr} {env : Env} (h : noStar e = true) : starEach (e :: es) env = (false, eval e env) :: starEach es env := by
  cases e <;> first | rfl | cases h
theorem star_any {env : Env} : ∀ {es : List Expr}, es.all noStar = true → (starEach es env).any (·.1) = false
  | [], _ => rfl
  | e :: es, h => by
    rw [List.all_cons, Bool.and_eq_true] at h
    rw [star_of h.1]
    show (false || (starEach es env).any (·.1)) = false
    rw [star_any h.2] <;> rfl
theorem back_any {pos : Pos} {l : List (Bool × Sem Value)} : (backTo pos l).any (·.1) = l.any (·.1) := by
  unfold backTo
  rw [List.any_map]
  rfl
/-- the instance that a datum is -/
theorem obj_at {G : GX} {W : Wl} {d : D} {v : V} {c : Str} {fn : List Str} {ds : List D} (s : SRel G W) (r : Rel G W d v) (h : objOf W.st d = some (c, fn, ds)) : ∃ p dx vs, v = .ref p ∧ W.H p = some (.ins (G.cl c) dx (fn.zip vs)) ∧ fn.length = ds.length ∧ RelL G W ds vs := by
  cases r with
  | obj a l r =>
    cases h
    obtain ⟨⟨dx, a⟩, _⟩ := a
    exact ⟨_, dx, _, rfl, a, l, r⟩
  | ref n hn =>
    have h' : (match W.st.get n with
      | some (.obj c fn fv) => some (c, fn, fv)
      | _ => none) = some (c, fn, ds) := h
    cases g : W.st.get n with
    | none => rw [g] at h'; cases h'
    | some o =>
      rw [g] at h'
      cases o with
      | obj _ _ _ =>
        cases h'
        cases s.ob n _ g with
        | obj a _ l r => exact ⟨_, _, _, rfl, a, l, r⟩
      | lst _ => cases h'
      | dct _ _ => cases h'
  | _ => cases h
/-- what a run promises of related values -/
def spK (G : GX) (K : List D → Store → Res D) : Sp := fun vs H Q E => ∃ W ds, W.H = H ∧ SRel G W ∧ RelL G W ds vs ∧ wpR (K ds W.st) (fun d st' => Lf G W d st' Q) (fun x st' => ∀ W' cls d, W'.st = st' → Ext W W' → SRel G W' → XRel G W' x cls d → E cls d W'.H)
/-- what a def promises: what the interpreter's run of it says -/
abbrev spC (G : GX) (C : Calls) (f : Nat) : Sp := spK G (C f)
/-- how a def may be called: with all its parameters by position; without the last, which has a default; the last by its name -/
structure Sig where
  full : Bool
  last : Option D
  kw : Option Str
/-- how the parameters are bound -/
structure Bnd (G : GX) (fd : FuncData) (ps : List Str) (sg : Sig) : Prop where
  all : sg.full = true → Binds G.K fd ps []
  last : ∀ d, sg.last = some d → ∃ v u, RelV v u ∧ (∀ W, Rel G W d v) ∧ Binds G.K fd ps [u]
  kw : ∀ k, sg.kw = some k → ∀ (s : Shared) (us : List Value) (w : Value), G.K.In s.heap → us.length + 1 = ps.length → BindsTo s fd ⟨us, [(k, w)]⟩ (ps.zip (us ++ [w]))
/-- the def that stands for f keeps its promise -/
structure FnC (G : GX) (C : Calls) (X : Cx) (f : Nat) (sg : Sig) : Prop where
  ex : ∃ (fd : FuncData) (ps : List Str) (k : Nat), FnOk X.prog X.w X.K X.mg X.base (L2.CX X.prog X.w) k (G.fns f) fd ps (spC G C f) ∧ Room (k + 1) X.A ∧ PySem.W.keepIn X.K (.ref (G.fns f)) = true ∧ Bnd G fd ps sg
section
variable {G : GX} {W W' : Wl}
/-- what nobody changes stays -/
def Keep (W W' : Wl) : Prop := ∀ p o, W.H p = some o → ¬ W.T p → NT o → W'.H p = some o ∧ ¬ W'.T p
theorem Keep.lat (k : Keep W W') {p : Addr} {vs : List V} (h : LAt W p vs) : LAt W' p vs := k p _ h.1 h.2 nofun
theorem Keep.rd (k : Keep W W') {p : Addr} {u : HO} (n : NT u) (h : Rd W.H p u) (t : ¬ W.T p) : Rd W'.H p u ∧ ¬ W'.T p := by
  rcases h with h | ⟨o, h⟩
  · exact ⟨.inl (k p _ h t n).1, (k p _ h t n).2⟩
  · exact ⟨.inr ⟨o, (k p _ h t nofun).1⟩, (k p _ h t nofun).2⟩
mutual
theorem Rel.move (k : Keep W W') : ∀ {d : D} {v : V}, nr d = true → Rel G W d v → Rel G W' d v
  | _, _, _, .non => .non
  | _, _, _, .bl b => .bl b
  | _, _, _, .int i => .int i
  | _, _, _, .str x h => .str x h
  | .tup xs, _, n, .tup h r => by
    have n' : nrL xs = true := by simpa [nr] using n
    refine .tup ?_ (RelL.move k n' r)
    rcases h with ⟨h, t⟩ | h
    · exact .inl (k.rd nofun h t)
    · exact .inr h
  | .lst xs, _, n, .lst h r => .lst (k.lat h) (RelL.move k (by simpa [nr] using n) r)
  | _, _, n, .ref _ _ => by simp [nr] at n
  | _, _, _, .fn f => .fn f
  | _, _, _, .scr h => by
    refine .scr ?_
    rcases h with ⟨h, t⟩ | h
    · exact .inl (k.rd nofun h t)
    · exact .inr h
  | .dct ks xs, _, n, .dct h l q r => by
    obtain ⟨⟨od, h⟩, t⟩ := h
    exact .dct ⟨⟨od, (k _ _ h t nofun).1⟩, (k _ _ h t nofun).2⟩ l q (RelL.move k (by simpa [nr] using n) r)
  | .obj c fn xs, _, n, .obj h l r => by
    obtain ⟨⟨dx, h⟩, t⟩ := h
    exact .obj ⟨⟨dx, (k _ _ h t nofun).1⟩, (k _ _ h t nofun).2⟩ l (RelL.move k (by simpa [nr] using n) r)
theorem RelL.move (k : Keep W W') : ∀ {ds : List D} {vs : List V}, nrL ds = true → RelL G W ds vs → RelL G W' ds vs
  | _, _, _, .nil => .nil
  | d :: ds, _, n, .cons a b => by
    have n' : nr d = true ∧ nrL ds = true := by simpa [nrL] using n
    exact .cons (Rel.move k n'.1 a) (RelL.move k n'.2 b)
end
theorem nr_look : ∀ {fn : List Str} {fv : List D} {f : Str} {e : D}, nrL fv = true → lookK fn fv f = some e → nr e = true
  | [], _, _, _, _, h => by cases h
  | _ :: _, [], _, _, _, h => by cases h
  | k :: ks, v :: vs, f, e, n, h => by
    have n' : nr v = true ∧ nrL vs = true := by simpa [nrL] using n
    have h' : (if k = f then some v else lookK ks vs f) = some e := h
    split at h'
    · cases h'; exact n'.1
    · exact nr_look n'.2 h'
theorem XRel.move {x : Xc} {cls : Value} {d : Option Addr} (k : Keep W W') (h : nrL x.fv = true) (r : XRel G W x cls d) : XRel G W' x cls d := by
  obtain ⟨h0, r⟩ := r
  refine ⟨h0, r.imp id fun ⟨dd, fs, a, b, c, q⟩ => ?_⟩
  obtain ⟨b', c'⟩ := k dd _ b c nofun
  exact ⟨dd, fs, a, b', c', fun f u z => let ⟨v, h1, h2⟩ := q f u z; ⟨v, h1, Rel.move k (nr_look h z) h2⟩⟩
/-- the store put aside -/
def Wl.bare (W : Wl) : Wl := ⟨W.al, st0, W.H, fun p => W.T p⟩
def Wl.back (W W1 : Wl) : Wl := ⟨W.al, W.st, W1.H, W.B⟩
theorem Wl.bare_T {p : Addr} : W.bare.T p ↔ W.T p := ⟨fun t => by
  rcases t with ⟨n, o, e, _⟩ | t
  · cases e
  · exact t, fun t => .inr t⟩
theorem Wl.bare_s (s : SRel G W) : SRel G W.bare := ⟨fun n o e => (by cases e), fun n m o o' e => (by cases e), fun n o e => (by cases e), fun p t => Wl.T.pln s t, fun n o e => (by cases e), s.tab⟩
theorem Wl.bare_keep : Keep W W.bare := fun p o h t _ => ⟨h, fun z => t (Wl.bare_T.mp z)⟩
theorem Wl.back_T {W1 : Wl} {p : Addr} : (W.back W1).T p ↔ W.T p := Iff.rfl
theorem Wl.back_ext {W1 : Wl} (s : SRel G W) (x : Ext W.bare W1) : Ext W (W.back W1) :=
  ⟨⟨Nat.le_refl _, fun _ _ => rfl, fun p o h t n => ⟨(x.keep p o h (fun z => t (Wl.bare_T.mp z)) n).1, t⟩⟩, fun p o b h => ⟨b, (x.bld p o (show W.T p from .inr b) h).2⟩⟩
theorem Wl.back_s {W1 : Wl} (s : SRel G W) (x : Ext W.bare W1) (s1 : SRel G W1) : SRel G (W.back W1) := by
  have ext := W.back_ext s x
  have same : ∀ p, W.T p → W1.H p = W.H p := fun p t => by
    obtain ⟨u, e⟩ := Wl.T.some s t
    rw [e]
    exact (x.bld p u t e).2
  refine ⟨s.lt, s.inj, fun n o e => (s.ob n o e).ext ext.toExt0 (same _ (.inl ⟨n, o, e, rfl⟩)), fun p b => ?_, s.bsep, s1.tab⟩
  obtain ⟨u, e, pu⟩ := s.bok p b
  exact ⟨u, (same p (.inr b)).trans e, pu⟩
theorem Wl.back_keep {W1 : Wl} (s : SRel G W) (x : Ext W.bare W1) : Keep W1 (W.back W1) := fun p o h t _ => ⟨h, fun z => by
  obtain ⟨u, e⟩ := Wl.T.some s (Wl.back_T.mp z)
  exact t (.inr (x.bld p u (Wl.back_T.mp z) e).1)⟩
theorem spPure {F : List D → Store → Res D} {vs : List V} {H : Hp} {Q : VK} {E : XK} (h : spK G (pureC F) vs H Q E) : spK G F vs H Q E := by
  obtain ⟨W, ds, rfl, s, r, h⟩ := h
  unfold pureC at h
  by_cases hn : nrL ds = true
  · rw [if_pos hn] at h
    refine ⟨W.bare, ds, rfl, Wl.bare_s s, RelL.move Wl.bare_keep hn r, ?_⟩
    show wpR (F ds st0) _ _
    cases e : F ds st0 with
    | none => rw [e] at h; exact h.elim
    | some o =>
      rw [e] at h
      cases o with
      | ok d st' =>
        have h' : wpR (if nr d then ok d W.st else none) (fun d st' => Lf G W d st' Q) (fun x st' => ∀ W' cls d, W'.st = st' → Ext W W' → SRel G W' → XRel G W' x cls d → E cls d W'.H) := h
        by_cases hd : nr d = true
        · rw [if_pos hd] at h'
          intro W1 v a x s1 r1
          exact (show Lf G W d W.st Q from h') (W.back W1) v rfl (Wl.back_ext s x) (Wl.back_s s x s1) (Rel.move (Wl.back_keep s x) hd r1)
        · rw [if_neg hd] at h'; exact h'.elim
      | exc y st' =>
        have h' : wpR (if nrL y.fv then (some (.exc y W.st) : Res D) else none) (fun d st' => Lf G W d st' Q) (fun x st' => ∀ W' cls d, W'.st = st' → Ext W W' → SRel G W' → XRel G W' x cls d → E cls d W'.H) := h
        by_cases hd : nrL y.fv = true
        · rw [if_pos hd] at h'
          intro W1 cls d a x s1 r1
          exact (show ∀ W' cls d, W'.st = W.st → Ext W W' → SRel G W' → XRel G W' y cls d → E cls d W'.H from h') (W.back W1) cls d rfl (Wl.back_ext s x) (Wl.back_s s x s1) (XRel.move (Wl.back_keep s x) hd r1)
        · rw [if_neg hd] at h'; exact h'.elim
  · rw [if_neg hn] at h; exact h.elim
theorem spP {p : Bool} {F : List D → Store → Res D} {vs : List V} {H : Hp} {Q : VK} {E : XK} (h : spK G (callP p F) vs H Q E) : spK G F vs H Q E := by
  cases p with
  | false => exact h
  | true => exact spPure h
/-- a new instance that nobody will change -/
theorem spMakeP {F : List D → Store → Res D} {c : Str} {vs : List V} {H : Hp} {Q : VK} {E : XK} (h : spK G (makeP F c) vs H Q E) : spK G (makeC F c) vs H Q E := by
  obtain ⟨W, ds, rfl, s, r, h⟩ := h
  refine ⟨W, ds, rfl, s, r, ?_⟩
  have h1 := wpR_bind.mp h
  rcases wpR_run h1 with ⟨d, st', e, q⟩ | ⟨x, st', e, q⟩
  · rw [e]
    intro W1 v a x s1 r1
    have q' : wpR (match st'.get W.st.next with
      | some (.obj c fn fv) => ok (D.obj c fn fv) (st'.put W.st.next none)
      | _ => none) (fun d st' => Lf G W d st' Q) (fun x st' => ∀ W' cls d, W'.st = st' → Ext W W' → SRel G W' → XRel G W' x cls d → E cls d W'.H) := q
    have ed : d = .ref W.st.next := by
      unfold makeC at e
      cases e2 : F (.ref W.st.next :: ds) (W.st.new (.obj c [] [])) with
      | none => rw [e2] at e; cases e
      | some o =>
        rw [e2] at e
        cases o with
        | ok d2 st2 =>
          have e3 : (match (generalizing := false) d2 with
            | .non => ok (D.ref W.st.next) st2
            | _ => none) = ok d st' := e
          cases d2 <;> first | (cases e3; done) | (cases e3; rfl)
        | exc x st2 => cases e
    subst ed
    rw [← a] at q'
    cases g : W1.st.get W.st.next with
    | none => rw [g] at q'; exact q'.elim
    | some o =>
      rw [g] at q'
      cases o with
      | obj c2 fn fv =>
        cases r1 with
        | ref _ hn => exact (show Lf G W (.obj c2 fn fv) (W1.st.put W.st.next none) Q from q') (W1.kill W.st.next) _ rfl (x.trans W1.kill_ext) (Wl.kill_s s1) (Wl.kill_obj s1 g)
      | lst _ => exact (show False from q').elim
      | dct _ _ => exact (show False from q').elim
  · rw [e]; exact q
end
section
variable {G : GX} {Ww : WX} {C : Calls} {X : Cx} {f : Nat} {sg : Sig}
theorem spK_of {K : List D → Store → Res D} {W : Wl} {σ : L2.St} {Q : VK} {ds : List D} {vs : List V} {W0 : Wl} (x : Ext W0 W) (s : SRel G W) (r : RelL G W ds vs) (h : wpR (K ds W.st) (fun d st' => Lf G W0 d st' Q) (Xf G Ww σ W0)) : spK G K vs W.H Q (WE Ww σ) :=
  ⟨W, ds, rfl, s, r, wpR_mono h (fun d st' l => l.from x) fun e st' q W' cls d a b c r => q W' cls d a (x.trans b) c r⟩
/-- a value that may be called, and what comes of it -/
structure Clb (G : GX) (Ww : WX) (X : Cx) (fv : Value) (K : List D → Store → Res D) (sg : Sig) : Prop where
  kp : PySem.W.keepIn X.K fv = true
  all : sg.full = true → ∀ (pins : List (Addr × Obj)) (s : Shared) (σ : L2.St) (H : Hp) (us : List Value) (vs : List V) (Q : VK), L2.Inv X pins σ H s → Vals vs us → spK G K vs H Q (WE Ww σ) → wpAny (model X.prog X.w) X.A (call fv us) (EP X pins σ Q) X.xe s
  last : ∀ d, sg.last = some d → ∀ (pins : List (Addr × Obj)) (s : Shared) (σ : L2.St) (H : Hp) (us : List Value) (vs : List V) (Q : VK), L2.Inv X pins σ H s → Vals vs us → (∀ v, (∀ W, Rel G W d v) → spK G K (vs ++ [v]) H Q (WE Ww σ)) → wpAny (model X.prog X.w) X.A (call fv us) (EP X pins σ Q) X.xe s
  kw : ∀ k, sg.kw = some k → ∀ (pins : List (Addr × Obj)) (s : Shared) (σ : L2.St) (H : Hp) (us : List Value) (vs : List V) (w : Value) (v : V) (Q : VK), L2.Inv X pins σ H s → Vals vs us → RelV v w → spK G K (vs ++ [v]) H Q (WE Ww σ) → wpAny (model X.prog X.w) X.A (call fv us [(k, w)]) (EP X pins σ Q) X.xe s
theorem Clb.of {fv : Value} {K K' : List D → Store → Res D} (h : Clb G Ww X fv K sg) (i : ∀ vs H Q E, spK G K' vs H Q E → spK G K vs H Q E) : Clb G Ww X fv K' sg :=
  ⟨h.kp, fun f pins s σ H us vs Q I r q => h.all f pins s σ H us vs Q I r (i _ _ _ _ q), fun d f pins s σ H us vs Q I r q => h.last d f pins s σ H us vs Q I r fun v hv => i _ _ _ _ (q v hv), fun k f pins s σ H us vs w v Q I r rw q => h.kw k f pins s σ H us vs w v Q I r rw (i _ _ _ _ q)⟩
theorem run_fnK {CX : CXT} {k : Nat} {fa : Addr} {fd : FuncData} {ps : List Str} {sp : Sp} {E : L2.St → XK} {pins : List (Addr × Obj)} {σ : L2.St} {H : Hp} {s : Shared} {Q : VK} {us : List Value} {vs : List V} {kn : Str} {w : Value} {v : V} (F : FnOk X.prog X.w X.K X.mg X.base CX k fa fd ps sp) (hr : Room k X.A)
    (hb : us.length + 1 = ps.length → BindsTo s fd ⟨us, [(kn, w)]⟩ (ps.zip (us ++ [w]))) (hx : PassesAt CX X σ (E σ)) (I : L2.Inv X pins σ H s) (r : Vals vs us) (rw : RelV v w) (h : sp (vs ++ [v]) H Q (E σ)) : wpAny (model X.prog X.w) X.A (call (.ref fa) us [(kn, w)]) (EP X pins σ Q) X.xe s := by
  have r2 : Vals (vs ++ [v]) (us ++ [w]) := r.append (.cons rw .nil)
  have hl : us.length + 1 = ps.length := by
    have e := r2.length
    rw [F.len _ _ _ _ h] at e
    rw [e, List.length_append, List.length_singleton]
  refine wpAny_call (codeAny_mono (F.run X.A X.stack s H ⟨us, [(kn, w)]⟩ (us ++ [w]) (vs ++ [v]) Q (E σ) hr I.env0 (hb hl) r2 h) fun r s' hq => ?_)
  cases r with
  | error e => exact hx pins H s e s' I hq
  | ok fl =>
    cases fl with
    | ret u => exact I.after hq
    | next => exact False.elim hq
    | brk => exact False.elim hq
    | cont => exact False.elim hq
theorem clb_fn (hK : X.K = G.K) (F : FnC G C X f sg) (tk : Takes X Ww) : Clb G Ww X (.ref (G.fns f)) (C f) sg := by
  obtain ⟨fd, ps, k, hF, hr, hk, hb⟩ := F.ex
  have hr' := hr.mono (Nat.le_succ k)
  refine ⟨hk, fun hf pins s σ H us vs Q I r q => run_fnS (E := WE Ww) hF hr' (by rw [hK]; exact hb.all hf) (passAt tk σ) I r q, fun d hd pins s σ H us vs Q I r q => ?_, fun kn hkn pins s σ H us vs w v Q I r rw q => ?_⟩
  · obtain ⟨v, u, rv, ra, b⟩ := hb.last d hd
    exact run_fnSD (E := WE Ww) hF hr' (by rw [hK]; exact b) (.cons rv .nil) (passAt tk σ) I r (q v ra)
  · exact run_fnK (E := WE Ww) hF hr' (fun hl => hb.kw kn hkn s us w (by rw [← hK]; exact I.kIn) hl) (passAt tk σ) I r rw q
theorem run_makeS {k : Nat} {Cl fa : Addr} {fd : FuncData} {ps : List Str} {sp : Sp} {dvs : List V} {ds : List Value} {CX : CXT} {E : L2.St → XK} {pins : List (Addr × Obj)} {σ : L2.St} {H : Hp} {s : Shared} {Q : VK} {us : List Value} {vs : List V} (M : Mk X.K Cl fa) (F : FnOk X.prog X.w X.K X.mg X.base CX k fa fd ps sp) (hr : Room (k + 1) X.A) (hb : Binds X.K fd ps ds) (hd : Vals dvs ds)
    (hx : PassesAt CX X σ (E σ)) (I : L2.Inv X pins σ H s) (r : Vals vs us)
    (h : ∀ x dx, H x = none → H dx = none → dx ≠ x → sp (.ref x :: (vs ++ dvs)) (upd (upd H dx (.own x)) x (.ins Cl dx [])) (fun v H2 => v = .non ∧ Q (.ref x) H2) (E σ)) :
    wpAny (model X.prog X.w) X.A (call (.ref Cl) us) (EP X pins σ Q) X.xe s := by
  have hq := h (s.heap.objs.size + 1) s.heap.objs.size (I.hok.fresh (Nat.le_succ _)) (I.hok.fresh (Nat.le_refl _)) (Nat.ne_of_lt (Nat.lt_succ_self _))
  have I2 := Inv.made (C := Cl) I
  have r2 : Vals (V.ref (s.heap.objs.size + 1) :: (vs ++ dvs)) (Value.ref (s.heap.objs.size + 1) :: (us ++ ds)) := .cons rfl (r.append hd)
  have hl : (Value.ref (s.heap.objs.size + 1) :: us ++ ds).length = ps.length := by
    have e := r2.length
    rw [F.len _ _ _ _ hq] at e
    exact e.symm
  refine wpAny_call (make_map (f := fa) I.kIn M.makes M.init (beq_iff_eq.mp M.fn) (codeAny_mono (F.run _ X.stack _ _ ⟨Value.ref (s.heap.objs.size + 1) :: us, []⟩ (Value.ref (s.heap.objs.size + 1) :: (us ++ ds)) _ _ (E σ) (hr.make Cl us [])
    (I2.env0.make Cl us []) (hb _ (Value.ref (s.heap.objs.size + 1) :: us) I2.kIn hl) r2 hq) fun r s' hq' => ?_))
  cases r with
  | error e => exact hx pins _ _ e s' I2 hq'
  | ok fl =>
    cases fl with
    | ret u =>
      obtain ⟨v, H', I3, rv, ev, q3⟩ := I2.after hq'
      subst ev
      exact ⟨rv, ⟨V.ref (s.heap.objs.size + 1), H', I3, rfl, q3⟩⟩
    | next => exact False.elim hq'
    | brk => exact False.elim hq'
    | cont => exact False.elim hq'
/-- what __init__ is asked -/
theorem spInit {F : List D → Store → Res D} {c : Str} {vs : List V} {H : Hp} {Q : VK} {E : XK} (h : spK G (makeC F c) vs H Q E) (x dx : Addr) (h1 : H x = none) (h2 : H dx = none) (h3 : dx ≠ x) :
    spK G F (.ref x :: vs) (upd (upd H dx (.own x)) x (.ins (G.cl c) dx [])) (fun v H2 => v = .non ∧ Q (.ref x) H2) E := by
  obtain ⟨W, ds, rfl, s, r, h⟩ := h
  have hx1 : (W.lay dx (.own x)).H x = none := by
    show upd W.H dx (.own x) x = none
    rw [upd_ne h3.symm]; exact h1
  have e0 := W.lay_ext (o := .own x) h2
  have s0 := Wl.lay_s (o := .own x) s h2
  have e1 := (W.lay dx (.own x)).bornO_ext (ob := .obj c [] []) (ho := .ins (G.cl c) dx []) s0 hx1
  have ext := e0.trans e1
  have s1 : SRel G ((W.lay dx (.own x)).bornO x (.obj c [] []) (.ins (G.cl c) dx [])) := Wl.bornO_s s0 hx1 (.obj (vs := []) (fn := []) upd_same .nil rfl .nil)
  refine ⟨(W.lay dx (.own x)).bornO x (.obj c [] []) (.ins (G.cl c) dx []), .ref W.st.next :: ds, rfl, s1, .cons Wl.bornO_ref (r.ext ext), ?_⟩
  refine wpR_mono (wpR_bind.mp h) (fun d st' q W2 v a x2 s2 r2 => ?_) fun y st' q W2 cls d a x2 s2 r2 => q W2 cls d a (ext.trans x2) s2 r2
  have q' : wpR (match d with
    | .non => ok (D.ref W.st.next) st'
    | _ => none) (fun d st' => Lf G W d st' Q) (fun x st' => ∀ W' cls d, W'.st = st' → Ext W W' → SRel G W' → XRel G W' x cls d → E cls d W'.H) := q
  cases d with
  | non =>
    cases r2
    refine ⟨rfl, (show Lf G W (.ref W.st.next) st' Q from q') W2 (.ref x) a (ext.trans x2) s2 ?_⟩
    have z := (Wl.bornO_ref (G := G) (W := W.lay dx (.own x)) (p := x) (ob := .obj c [] []) (ho := .ins (G.cl c) dx [])).ext x2
    exact z
  | _ => exact (show False from q').elim
theorem clb_make {c : Str} (hK : X.K = G.K) (M : Mk X.K (G.cl c) (G.fns f)) (F : FnC G C X f sg) (tk : Takes X Ww) (hkw : sg.kw = none) : Clb G Ww X (.ref (G.cl c)) (makeC (C f) c) sg := by
  obtain ⟨fd, ps, k, hF, hr, hk, hb⟩ := F.ex
  refine ⟨M.kp, fun hf pins s σ H us vs Q I r q => ?_, fun d hd pins s σ H us vs Q I r q => ?_, fun kn hkn => by rw [hkw] at hkn; cases hkn⟩
  · refine run_makeS (E := WE Ww) (dvs := []) M hF hr (by rw [hK]; exact hb.all hf) .nil (passAt tk σ) I r fun x dx h1 h2 h3 => ?_
    rw [List.append_nil]
    exact spInit q x dx h1 h2 h3
  · obtain ⟨v, u, rv, ra, b⟩ := hb.last d hd
    exact run_makeS (E := WE Ww) M hF hr (by rw [hK]; exact b) (.cons rv .nil) (passAt tk σ) I r fun x dx h1 h2 h3 => spInit (q v ra) x dx h1 h2 h3
theorem clb_makeK {c : Str} {p : Bool} (h : Clb G Ww X (.ref (G.cl c)) (makeC (C f) c) sg) : Clb G Ww X (.ref (G.cl c)) (makeK p (C f) c) sg := by
  cases p with
  | false => exact h
  | true => exact h.of fun vs H Q E q => spMakeP (spPure q)
theorem clb_callP {p : Bool} {fv : Value} {F : List D → Store → Res D} (h : Clb G Ww X fv F sg) : Clb G Ww X fv (callP p F) sg := h.of fun _ _ _ _ q => spP q
theorem evL_snoc {xs : List Ex} {x : Ex} : ∀ {φ : Fr} {st : Store}, evL C (xs ++ [x]) φ st = (evL C xs φ st).bind fun ds st => (evE C x φ st).bind fun d st => ok (ds ++ [d]) st := by
  induction xs with
  | nil =>
    intro φ st
    show (evE C x φ st).bind _ = (ok [] st).bind _
    rfl
  | cons y ys ih =>
    intro φ st
    show (evE C y φ st).bind (fun d st => (evL C (ys ++ [x]) φ st).bind fun ds st => ok (d :: ds) st) = ((evE C y φ st).bind fun d st => (evL C ys φ st).bind fun ds st => ok (d :: ds) st).bind _
    cases e : evE C y φ st with
    | none => rfl
    | some o =>
      cases o with
      | exc x st => rfl
      | ok d st1 =>
        show (evL C (ys ++ [x]) φ st1).bind _ = ((evL C ys φ st1).bind fun ds st => ok (d :: ds) st).bind _
        rw [ih]
        cases e1 : evL C ys φ st1 with
        | none => rfl
        | some o =>
          cases o with
          | exc x st => rfl
          | ok ds st2 =>
            show ((evE C x φ st2).bind fun d st => ok (ds ++ [d]) st).bind _ = (evE C x φ st2).bind _
            cases e2 : evE C x φ st2 with
            | none => rfl
            | some o => cases o <;> rfl
section
variable {ex : Ex} {xs : List Ex} {K : List D → Store → Res D} {a : Addr} {x : Str} {es : List Expr} {p pos : Pos}
theorem ra_spK {W : Wl} {φ : Fr} {σ : L2.St} {Q : VK} (fr : FRel G W φ σ) (sr : SRel G W) (h : wpR ((evL C xs φ W.st).bind K) (fun d st' => Lf G W d st' Q) (Xf G Ww σ W)) : RA G Ww C xs σ W.H (fun vs H1 => spK G K vs H1 Q (WE Ww σ)) :=
  RA.step fr sr (wpR_bind.mp h) fun ds W1 vs q1 x1 f1 s1 r1 => spK_of x1 s1 r1 q1
theorem nil_spK {W : Wl} {φ : Fr} {σ : L2.St} {Q : VK} (sr : SRel G W) (h : wpR ((evL C [] φ W.st).bind K) (fun d st' => Lf G W d st' Q) (Xf G Ww σ W)) : spK G K [] W.H Q (WE Ww σ) :=
  spK_of (.refl W) sr .nil (show wpR (K [] W.st) _ _ from h)
/-- f(e, ..) -/
theorem se_callG (hx : ∀ φ st, evE C ex φ st = (evL C xs φ st).bind K) (cl : Clb G Ww X (.ref a) K sg) (hf : sg.full = true) (hg : Gl X x) (hm : X.mg x = some (.ref a)) (ha : PA X es (RA G Ww C xs)) (hn : es = [] → xs = []) (hdb : (x == ("__debug__" : Str)) = false) (hs : es.all noStar = true) :
    PE X (.Call (.Name x p) es [] pos) (RE G Ww C ex) := by
  refine ⟨fun pins s σ H Q I h => wpAny_Call_Name_kw (ld_glob I hg hm ?_ hdb)⟩
  obtain ⟨W, φ, rfl, fr, sr, h⟩ := h
  rw [hx] at h
  cases es with
  | nil =>
    rw [hn rfl] at h
    exact PySem.W.callWith_K0 I.kIn cl.kp (cl.all hf pins s σ W.H [] [] Q I .nil (nil_spK sr h))
  | cons e es =>
    have h2 : noStar e = true ∧ es.all noStar = true := by rw [List.all_cons, Bool.and_eq_true] at hs; exact hs
    exact PySem.W.callWith_K (h₀ := X.base) I.ok.mod.kin cl.kp (thn (ha.run pos pins s σ W.H _ I (ra_spK fr sr h)) fun us s1 ⟨vs, H1, I1, r1, q1⟩ => ⟨I1.kIn, cl.all hf pins s1 σ H1 us vs Q I1 r1 q1⟩) (star_of h2.1) (back_any.trans (star_any h2.2))
/-- the last parameter left to its default -/
theorem last_wp {d : D} {W : Wl} {φ : Fr} {σ : L2.St} {Q : VK} (h : wpR ((evL C (xs ++ [.cst d]) φ W.st).bind K) (fun d st' => Lf G W d st' Q) (Xf G Ww σ W)) : wpR ((evL C xs φ W.st).bind fun ds st => K (ds ++ [d]) st) (fun d st' => Lf G W d st' Q) (Xf G Ww σ W) := by
  rw [evL_snoc] at h
  cases e : evL C xs φ W.st with
  | none => rw [e] at h; exact h
  | some o => rw [e] at h; cases o <;> exact h
theorem last_spK {d : D} {vs : List V} {H : Hp} {Q : VK} {E : XK} (h : spK G (fun ds st => K (ds ++ [d]) st) vs H Q E) (v : V) (hv : ∀ W, Rel G W d v) : spK G K (vs ++ [v]) H Q E := by
  obtain ⟨W, ds, rfl, s, r, h⟩ := h
  exact ⟨W, ds ++ [d], rfl, s, r.append (.cons (hv W) .nil), h⟩
theorem se_callGL {d : D} (hx : ∀ φ st, evE C ex φ st = (evL C (xs ++ [.cst d]) φ st).bind K) (cl : Clb G Ww X (.ref a) K sg) (hd : sg.last = some d) (hg : Gl X x) (hm : X.mg x = some (.ref a)) (ha : PA X es (RA G Ww C xs)) (hn : es = [] → xs = []) (hdb : (x == ("__debug__" : Str)) = false) (hs : es.all noStar = true) :
    PE X (.Call (.Name x p) es [] pos) (RE G Ww C ex) := by
  refine ⟨fun pins s σ H Q I h => wpAny_Call_Name_kw (ld_glob I hg hm ?_ hdb)⟩
  obtain ⟨W, φ, rfl, fr, sr, h⟩ := h
  rw [hx] at h
  have h := last_wp h
  cases es with
  | nil =>
    rw [hn rfl] at h
    exact PySem.W.callWith_K0 I.kIn cl.kp (cl.last d hd pins s σ W.H [] [] Q I .nil fun v hv => last_spK (nil_spK sr h) v hv)
  | cons e es =>
    have h2 : noStar e = true ∧ es.all noStar = true := by rw [List.all_cons, Bool.and_eq_true] at hs; exact hs
    exact PySem.W.callWith_K (h₀ := X.base) I.ok.mod.kin cl.kp (thn (ha.run pos pins s σ W.H _ I (ra_spK fr sr h)) fun us s1 ⟨vs, H1, I1, r1, q1⟩ => ⟨I1.kIn, cl.last d hd pins s1 σ H1 us vs Q I1 r1 fun v hv => last_spK q1 v hv⟩) (star_of h2.1) (back_any.trans (star_any h2.2))
/-- the last parameter by its name -/
def kwSp (G : GX) (Ww : WX) (C : Calls) (K : List D → Store → Res D) (y : Ex) (Q : VK) (σ : L2.St) : List V → Hp → Prop := fun vs H1 => ∃ W φ ds, W.H = H1 ∧ FRel G W φ σ ∧ SRel G W ∧ RelL G W ds vs ∧ wpR ((evE C y φ W.st).bind fun d st => K (ds ++ [d]) st) (fun d st' => Lf G W d st' Q) (Xf G Ww σ W)
theorem kw_ra {y : Ex} {W : Wl} {φ : Fr} {σ : L2.St} {Q : VK} (fr : FRel G W φ σ) (sr : SRel G W) (h : wpR ((evL C (xs ++ [y]) φ W.st).bind K) (fun d st' => Lf G W d st' Q) (Xf G Ww σ W)) : RA G Ww C xs σ W.H (kwSp G Ww C K y Q σ) := by
  rw [evL_snoc] at h
  have h' : wpR ((evL C xs φ W.st).bind fun ds st => (evE C y φ st).bind fun d st => K (ds ++ [d]) st) (fun d st' => Lf G W d st' Q) (Xf G Ww σ W) := by
    cases e : evL C xs φ W.st with
    | none => rw [e] at h; exact h
    | some o =>
      rw [e] at h
      cases o with
      | exc x st => exact h
      | ok ds st =>
        have h2 : wpR (((evE C y φ st).bind fun d st => ok (ds ++ [d]) st).bind K) (fun d st' => Lf G W d st' Q) (Xf G Ww σ W) := h
        show wpR ((evE C y φ st).bind fun d st => K (ds ++ [d]) st) _ _
        cases e2 : evE C y φ st with
        | none => rw [e2] at h2; exact h2
        | some o => rw [e2] at h2; cases o <;> exact h2
  exact RA.step fr sr (wpR_bind.mp h') fun ds W1 vs q1 x1 f1 s1 r1 => ⟨W1, φ, ds, rfl, f1, s1, r1, wpR_mono q1 (fun d st' l => l.from x1) fun _ _ q => q.ext x1⟩
theorem kw_re {y : Ex} {σ : L2.St} {Q : VK} {vs : List V} {H : Hp} (h : kwSp G Ww C K y Q σ vs H) : RE G Ww C y σ H (fun v H2 => spK G K (vs ++ [v]) H2 Q (WE Ww σ)) := by
  obtain ⟨W, φ, ds, rfl, fr, sr, r, h⟩ := h
  exact RE.step fr sr (wpR_bind.mp h) fun d W1 v q1 x1 f1 s1 r1 => spK_of x1 s1 ((r.ext x1).append (.cons r1 .nil)) q1
theorem se_callGK {y : Ex} {kn : Str} {ke : Expr} {kp : Pos} (hx : ∀ φ st, evE C ex φ st = (evL C (xs ++ [y]) φ st).bind K) (cl : Clb G Ww X (.ref a) K sg) (hk : sg.kw = some kn) (hg : Gl X x) (hm : X.mg x = some (.ref a)) (ha : PA X es (RA G Ww C xs)) (hne : es ≠ []) (hke : PE X ke (RE G Ww C y)) (hdb : (x == ("__debug__" : Str)) = false) (hs : es.all noStar = true) :
    PE X (.Call (.Name x p) es [⟨some kn, ke, kp⟩] pos) (RE G Ww C ex) := by
  refine ⟨fun pins s σ H Q I h => wpAny_Call_Name_kw (ld_glob I hg hm ?_ hdb)⟩
  obtain ⟨W, φ, rfl, fr, sr, h⟩ := h
  rw [hx] at h
  cases es with
  | nil => exact absurd rfl hne
  | cons e es =>
    have h2 : noStar e = true ∧ es.all noStar = true := by rw [List.all_cons, Bool.and_eq_true] at hs; exact hs
    refine PySem.W.callWith_KW (h₀ := X.base) I.ok.mod.kin cl.kp rfl (thn (ha.run pos pins s σ W.H _ I (kw_ra fr sr h)) fun us s1 ⟨vs, H1, I1, r1, q1⟩ => ?_) ?_ (star_of h2.1)
    · refine thn ((pk_cons (nm := some kn) (kpos := kp) hke pk_nil).run pos pins s1 σ H1 (fun zs H2 => ∃ v, zs = [v] ∧ spK G K (vs ++ [v]) H2 Q (WE Ww σ)) I1 ?_) fun ws s2 ⟨zs, H2, I2, rz, q2⟩ => ⟨I2.kIn, ?_⟩
      · have z := kw_re q1
        obtain ⟨W2, φ2, e1, f2, s2, z⟩ := z
        exact ⟨W2, φ2, e1, f2, s2, wpR_mono z (fun d st' l W' v a b c r => ⟨v, rfl, l W' v a b c r⟩) fun _ _ q => q⟩
      · obtain ⟨v, rfl, q3⟩ := q2
        cases rz with
        | cons rv rn =>
          cases rn
          exact cl.kw kn hk pins s2 σ H2 us vs _ v Q I2 r1 rv q3
    · rw [star_of h2.1]
      show ((false || (backTo pos (starEach es X.env)).any (·.1)) || false) = false
      rw [back_any, star_any h2.2] <;> rfl
end
section
variable {m : Str} {t : List (Str × Nat)} {o : Expr} {eo : Ex} {es : List Expr} {xs : List Ex} {apos pos : Pos} {pu : Bool} {kws : List Keyword}
/-- the classes that have the method -/
def MtOk (G : GX) (C : Calls) (X : Cx) (m : Str) (t : List (Str × Nat)) (sg : Nat → Sig) (P : Sig → Prop) : Prop := ∀ c f, t.lookup c = some f → Cls X.K (G.cl c) ∧ Meth X.K (G.cl c) m (G.fns f) ∧ FnC G C X f (sg f) ∧ P (sg f)
/-- the receiver, then the method -/
theorem meth_go {sgs : Nat → Sig} {P : Sig → Prop} {pl : Sem Bool} (hK : X.K = G.K) (ho : PE X o (RE G Ww C eo)) (M : MtOk G C X m t sgs P)
    (ht : eval (.Call (.Attribute o m apos) es kws pos) X.env = (do
      let ov ← eval o X.env
      standAt apos.atName
      let (f, first) ← holding [ov] (getMethod ov m pl)
      callWith pos f first (backTo pos (starEach es X.env)) (backToKw pos (keywordEach kws X.env))))
    {pins : List (Addr × Obj)} {s : Shared} {σ : L2.St} {W0 : Wl} {φ : Fr} {Q : VK} (I : L2.Inv X pins σ W0.H s) (fr : FRel G W0 φ σ) (sr : SRel G W0) (h : wpR (evE C (.meth pu m t eo xs) φ W0.st) (fun d st' => Lf G W0 d st' Q) (Xf G Ww σ W0))
    (k : ∀ (W : Wl) (s1 : Shared) (x : D) (a : Addr) (f : Nat), L2.Inv X pins σ W.H s1 → FRel G W φ σ → SRel G W → Rel G W x (.ref a) → FnC G C X f (sgs f) → Meth X.K (G.cl ((objOf W.st x).elim default (·.1))) m (G.fns f) → P (sgs f) →
      wpR ((evL C xs φ W.st).bind fun ds st => callP pu (C f) (x :: ds) st) (fun d st' => Lf G W d st' Q) (Xf G Ww σ W) →
      wpAny (model X.prog X.w) X.A (callWith pos (.ref (G.fns f)) [.ref a] (backTo pos (starEach es X.env)) (backToKw pos (keywordEach kws X.env))) (EP X pins σ Q) X.xe s1) :
    wpAny (model X.prog X.w) X.A (eval (.Call (.Attribute o m apos) es kws pos) X.env) (EP X pins σ Q) X.xe s := by
  have h1 : RE G Ww C eo σ W0.H (fun v H1 => ∃ W x, W.H = H1 ∧ FRel G W φ σ ∧ SRel G W ∧ Rel G W x v ∧ wpR (match objOf W.st x with
    | some (c, fn, _) => if m ∈ fn then none else match t.lookup c with
      | some f => (evL C xs φ W.st).bind fun ds st => callP pu (C f) (x :: ds) st
      | none => none
    | none => none) (fun d st' => Lf G W d st' Q) (Xf G Ww σ W)) :=
    RE.step fr sr (wpR_bind.mp h) fun d W1 v q1 x1 f1 s1 r1 => ⟨W1, d, rfl, f1, s1, r1, wpR_mono q1 (fun d st' l => l.from x1) fun _ _ q => q.ext x1⟩
  refine PySem.W.methodCall_KW (pl := pl) (thn (ho.run pins s σ W0.H _ I h1) fun u s1 ⟨v, H1, I1, rx, q⟩ => ?_) ht
  obtain ⟨W, x, rfl, f1, s1r, rv, q⟩ := q
  cases e : objOf W.st x with
  | none => rw [e] at q; exact q.elim
  | some cf =>
    obtain ⟨c, fn, fv⟩ := cf
    rw [e] at q
    have q' : wpR (if m ∈ fn then none else match t.lookup c with
      | some f => (evL C xs φ W.st).bind fun ds st => callP pu (C f) (x :: ds) st
      | none => none) (fun d st' => Lf G W d st' Q) (Xf G Ww σ W) := q
    by_cases hm : m ∈ fn
    · rw [if_pos hm] at q'; exact q'.elim
    rw [if_neg hm] at q'
    cases el : t.lookup c with
    | none => rw [el] at q'; exact q'.elim
    | some f =>
      rw [el] at q'
      obtain ⟨hc, hmt, hF, hP⟩ := M c f el
      obtain ⟨a, dx, vs, rfl, hi, _, _⟩ := obj_at s1r rv e
      obtain rfl : u = Value.ref a := rx
      refine getmeth_ok I1 hi hc hmt (zip_none hm) ?_
      exact k W s1 x a f I1 f1 s1r rv hF (by rw [e]; exact hmt) hP q'
theorem se_meth {sgs : Nat → Sig} {pl : Sem Bool} (hK : X.K = G.K) (tk : Takes X Ww) (ho : PE X o (RE G Ww C eo)) (M : MtOk G C X m t sgs (fun sg => sg.full = true)) (ha : PA X es (RA G Ww C xs)) (hn : es = [] → xs = []) (hs : es.all noStar = true)
    (ht : eval (.Call (.Attribute o m apos) es [] pos) X.env = (do
      let ov ← eval o X.env
      standAt apos.atName
      let (f, first) ← holding [ov] (getMethod ov m pl)
      callWith pos f first (backTo pos (starEach es X.env)) (backToKw pos (keywordEach [] X.env)))) :
    PE X (.Call (.Attribute o m apos) es [] pos) (RE G Ww C (.meth pu m t eo xs)) := by
  refine ⟨fun pins s σ H Q I h => ?_⟩
  obtain ⟨W0, φ, rfl, fr, sr, h⟩ := h
  refine meth_go hK ho M ht I fr sr h fun W s1 x a f I1 f1 s1r rv hF hmt hP q => ?_
  have cl := clb_fn hK hF tk
  cases es with
  | nil =>
    rw [hn rfl] at q
    have q' : wpR (callP pu (C f) [x] W.st) (fun d st' => Lf G W d st' Q) (Xf G Ww σ W) := q
    exact PySem.W.callWith_K0 (first := [.ref a]) I1.kIn hmt.kp (cl.all hP pins s1 σ W.H [.ref a] [.ref a] Q I1 (.cons rfl .nil) (spP (p := pu) (spK_of (.refl W) s1r (.cons rv .nil) q')))
  | cons e es =>
    have h2 : noStar e = true ∧ es.all noStar = true := by rw [List.all_cons, Bool.and_eq_true] at hs; exact hs
    have ht : RA G Ww C xs σ W.H (fun vs H1 => spK G (C f) (.ref a :: vs) H1 Q (WE Ww σ)) := RA.step f1 s1r (wpR_bind.mp q) fun ds W1 vs q1 x1 f1 s1 r1 => spP (p := pu) (spK_of x1 s1 (.cons (rv.ext x1) r1) q1)
    refine PySem.W.callWith_K (first := [.ref a]) (h₀ := X.base) I1.ok.mod.kin hmt.kp (thn (ha.run pos pins s1 σ W.H _ I1 ht) fun us s2 ⟨vs, H2, I2, r, q2⟩ => ⟨I2.kIn, ?_⟩) (star_of h2.1) (back_any.trans (star_any h2.2))
    exact cl.all hP pins s2 σ H2 (.ref a :: us) (.ref a :: vs) Q I2 (.cons rfl r) q2
/-- the last parameter by its name -/
theorem se_methK {sgs : Nat → Sig} {pl : Sem Bool} {kn : Str} {ke : Expr} {kp : Pos} {y : Ex} (hK : X.K = G.K) (tk : Takes X Ww) (ho : PE X o (RE G Ww C eo)) (M : MtOk G C X m t sgs (fun sg => sg.kw = some kn)) (ha : PA X es (RA G Ww C xs)) (hne : es ≠ []) (hke : PE X ke (RE G Ww C y)) (hs : es.all noStar = true)
    (ht : eval (.Call (.Attribute o m apos) es [⟨some kn, ke, kp⟩] pos) X.env = (do
      let ov ← eval o X.env
      standAt apos.atName
      let (f, first) ← holding [ov] (getMethod ov m pl)
      callWith pos f first (backTo pos (starEach es X.env)) (backToKw pos (keywordEach [⟨some kn, ke, kp⟩] X.env)))) :
    PE X (.Call (.Attribute o m apos) es [⟨some kn, ke, kp⟩] pos) (RE G Ww C (.meth pu m t eo (xs ++ [y]))) := by
  refine ⟨fun pins s σ H Q I h => ?_⟩
  obtain ⟨W0, φ, rfl, fr, sr, h⟩ := h
  refine meth_go hK ho M ht I fr sr h fun W s1 x a f I1 f1 s1r rv hF hmt hP q => ?_
  have cl := clb_fn hK hF tk
  cases es with
  | nil => exact absurd rfl hne
  | cons e es =>
    have h2 : noStar e = true ∧ es.all noStar = true := by rw [List.all_cons, Bool.and_eq_true] at hs; exact hs
    have ht : RA G Ww C xs σ W.H (fun vs H1 => ∃ W φ x ds, W.H = H1 ∧ FRel G W φ σ ∧ SRel G W ∧ Rel G W x (.ref a) ∧ RelL G W ds vs ∧ wpR ((evE C y φ W.st).bind fun d st => callP pu (C f) (x :: (ds ++ [d])) st) (fun d st' => Lf G W d st' Q) (Xf G Ww σ W)) := by
      rw [evL_snoc] at q
      have h' : wpR ((evL C xs φ W.st).bind fun ds st => (evE C y φ st).bind fun d st => callP pu (C f) (x :: (ds ++ [d])) st) (fun d st' => Lf G W d st' Q) (Xf G Ww σ W) := by
        cases e : evL C xs φ W.st with
        | none => rw [e] at q; exact q
        | some o =>
          rw [e] at q
          cases o with
          | exc x st => exact q
          | ok ds st =>
            have h2 : wpR (((evE C y φ st).bind fun d st => ok (ds ++ [d]) st).bind fun ds st => callP pu (C f) (x :: ds) st) (fun d st' => Lf G W d st' Q) (Xf G Ww σ W) := q
            show wpR ((evE C y φ st).bind fun d st => callP pu (C f) (x :: (ds ++ [d])) st) _ _
            cases e2 : evE C y φ st with
            | none => rw [e2] at h2; exact h2
            | some o => rw [e2] at h2; cases o <;> exact h2
      exact RA.step f1 s1r (wpR_bind.mp h') fun ds W1 vs q1 x1 f1 s1 r1 => ⟨W1, φ, x, ds, rfl, f1, s1, rv.ext x1, r1, wpR_mono q1 (fun d st' l => l.from x1) fun _ _ q => q.ext x1⟩
    refine PySem.W.callWith_KW (first := [.ref a]) (h₀ := X.base) I1.ok.mod.kin hmt.kp rfl (thn (ha.run pos pins s1 σ W.H _ I1 ht) fun us s2 ⟨vs, H1, I2, r1, q1⟩ => ?_) ?_ (star_of h2.1)
    · obtain ⟨W2, φ2, x2, ds, rfl, f2, s2r, rx2, rds, q1⟩ := q1
      have hre : RE G Ww C y σ W2.H (fun v H2 => spK G (C f) (.ref a :: (vs ++ [v])) H2 Q (WE Ww σ)) := RE.step f2 s2r (wpR_bind.mp q1) fun d W1 v q1 x1 f1 s1 r1 => spP (p := pu) (spK_of x1 s1 (.cons (rx2.ext x1) ((rds.ext x1).append (.cons r1 .nil))) q1)
      refine thn ((pk_cons (nm := some kn) (kpos := kp) hke pk_nil).run pos pins s2 σ W2.H (fun zs H2 => ∃ v, zs = [v] ∧ spK G (C f) (.ref a :: (vs ++ [v])) H2 Q (WE Ww σ)) I2 ?_) fun ws s3 ⟨zs, H2, I3, rz, q2⟩ => ⟨I3.kIn, ?_⟩
      · obtain ⟨W3, φ3, e1, f3, s3, z⟩ := hre
        exact ⟨W3, φ3, e1, f3, s3, wpR_mono z (fun d st' l W' v a b c r => ⟨v, rfl, l W' v a b c r⟩) fun _ _ q => q⟩
      · obtain ⟨v, rfl, q3⟩ := q2
        cases rz with
        | cons rv2 rn =>
          cases rn
          exact cl.kw kn hP pins s3 σ H2 (.ref a :: us) (.ref a :: vs) _ v Q I3 (.cons rfl r1) rv2 q3
    · rw [star_of h2.1]
      show ((false || (backTo pos (starEach es X.env)).any (·.1)) || false) = false
      rw [back_any, star_any h2.2] <;> rfl
end
/-- a call of a name that holds a def -/
theorem se_callv {i : Nat} {x : Str} {es : List Expr} {xs : List Ex} {p pos : Pos} {nf : Nat} {sgs : Nat → Sig} (hK : X.K = G.K) (F : ∀ f, f < nf → FnC G C X f (sgs f)) (tk : Takes X Ww) (hN : X.N[i]? = some x) (hv : Vis X.env.scope x) (ha : PA X es (RA G Ww C xs)) (hn : es = [] → xs = []) (hdb : (x == ("__debug__" : Str)) = false) (hcd : (x == ("__classdict__" : Str)) = false) (hs : es.all noStar = true) (hall : ∀ f, f < nf → (sgs f).full = true) :
    PE X (.Call (.Name x p) es [] pos) (RE G Ww C (.callv nf i xs)) := by
  refine ⟨fun pins s σ H Q I h => ?_⟩
  obtain ⟨W, φ, rfl, fr, sr, h⟩ := h
  have h' : wpR (match φ[i]? with
    | some (some (.fn f)) => if f < nf then (evL C xs φ W.st).bind fun ds st => C f ds st else none
    | _ => none) (fun d st' => Lf G W d st' Q) (Xf G Ww σ W) := h
  cases e0 : φ[i]? with
  | none => rw [e0] at h'; exact h'.elim
  | some o =>
    rw [e0] at h'
    cases o with
    | none => exact h'.elim
    | some d =>
      cases d with
      | fn f =>
        obtain ⟨v, e1, rv⟩ := fr.at_ i _ e0
        cases rv
        have hf : f < nf := by
          by_cases z : f < nf
          · exact z
          · have h2 : wpR (if f < nf then _ else none) (fun d st' => Lf G W d st' Q) (Xf G Ww σ W) := h'
            rw [if_neg z] at h2
            exact h2.elim
        have h' : wpR (if f < nf then _ else none) (fun d st' => Lf G W d st' Q) (Xf G Ww σ W) := h'
        rw [if_pos hf] at h'
        have cl := clb_fn hK (F f hf) tk
        refine wpAny_Call_Name_kw (thn ((pe_var (pos := p) hN hv hdb hcd).run pins s σ W.H (fun v H1 => v = .ref (G.fns f) ∧ H1 = W.H) I ⟨.ref (G.fns f), e1, rfl, rfl⟩) fun u s1 ⟨v, H1, I1, r1, q1⟩ => ?_)
        obtain ⟨rfl, rfl⟩ := q1
        cases r1
        cases es with
        | nil =>
          rw [hn rfl] at h'
          exact PySem.W.callWith_K0 I1.kIn cl.kp (cl.all (hall f hf) pins s1 σ W.H [] [] Q I1 .nil (nil_spK sr h'))
        | cons e es =>
          have h2 : noStar e = true ∧ es.all noStar = true := by rw [List.all_cons, Bool.and_eq_true] at hs; exact hs
          exact PySem.W.callWith_K (h₀ := X.base) I.ok.mod.kin cl.kp (thn (ha.run pos pins s1 σ W.H _ I1 (ra_spK fr sr h')) fun us s2 ⟨vs, H2, I2, r, q⟩ => ⟨I2.kIn, cl.all (hall f hf) pins s2 σ H2 us vs Q I2 r q⟩) (star_of h2.1) (back_any.trans (star_any h2.2))
      | _ => exact h'.elim
/-- a def's name as a value -/
theorem se_fn {x : Str} {pos : Pos} (hg : Gl X x) (hm : X.mg x = some (.ref (G.fns f))) (hdb : (x == ("__debug__" : Str)) = false) : PE X (.Name x pos) (RE G Ww C (.cst (.fn f))) :=
  se_const (v := .ref (G.fns f)) (pe_glob hg hm (show RelV (.ref (G.fns f)) (.ref (G.fns f)) from rfl) hdb) fun _ => .fn f
end
end OM
namespace OM
open PySem PySem.Spec L2
/-- J yields the data ds, as long as nobody changes what stood at W -/
def Yl (G : GX) (W : Wl) (J : It) (ds : List D) : Prop := ∀ W', Ext0 W W' → SRel G W' →
  (∀ i d, ds[i]? = some d → J.go i W'.H ∧ ∀ x H', J.yld i W'.H x H' → ∃ W'', W''.H = H' ∧ W''.st = W'.st ∧ Ext W' W'' ∧ SRel G W'' ∧ Rel G W'' d x) ∧ ∀ i, ds.length ≤ i → J.stop i W'.H
/-- .. and while the list in the store is as it was -/
def YlG (G : GX) (d0 : D) (W : Wl) (J : It) (ds : List D) : Prop := ∀ W', Ext0 W W' → SRel G W' → Same d0 ds W'.st →
  (∀ i d, ds[i]? = some d → J.go i W'.H ∧ ∀ x H', J.yld i W'.H x H' → ∃ W'', W''.H = H' ∧ W''.st = W'.st ∧ Ext W' W'' ∧ SRel G W'' ∧ Rel G W'' d x) ∧ ∀ i, ds.length ≤ i → J.stop i W'.H
theorem Yl.g {G : GX} {d0 : D} {W : Wl} {J : It} {ds : List D} (h : Yl G W J ds) : YlG G d0 W J ds := fun W' x s _ => h W' x s
theorem itemsS_of {d : D} {xs : List D} (st : Store) (h : itemsOf d = some xs) : itemsS st d = some xs := by
  cases d <;> first | exact h | cases h
theorem same_of {d : D} {xs : List D} (ys : List D) (st : Store) (h : itemsOf d = some xs) : Same d ys st := by
  cases d <;> first | trivial | cases h
theorem YlG.of {G : GX} {d0 : D} {W : Wl} {J : It} {ds : List D} (h : YlG G d0 W J ds) (e : itemsOf d0 = some ds) : Yl G W J ds := fun W' x s => h W' x s (same_of _ _ e)
/-- an iterable's reading -/
def RI (G : GX) (Ww : WX) (C : Calls) (ex : Ex) : TI := fun σ H R => ∃ W φ, W.H = H ∧ FRel G W φ σ ∧ SRel G W ∧ wpR (evE C ex φ W.st) (fun d st' => ∃ ds, itemsS st' d = some ds ∧ ∀ W' J, W'.st = st' → Ext W W' → SRel G W' → YlG G d W' J ds → R J W'.H) (Xf G Ww σ W)
section
variable {G : GX} {Ww : WX} {C : Calls} {X : Cx} {W : Wl}
theorem yl_list {p : Addr} {ds : List D} {vs : List V} (h : ∀ W', Ext0 W W' → SqL G.K W'.H p vs) (r : RelL G W ds vs) : Yl G W (Itl G.K p) ds := fun W' x s => by
  have q := h W' x
  refine ⟨fun i d e => ?_, fun i hi => ⟨vs, q, by rw [← r.length]; exact hi⟩⟩
  obtain ⟨v, e1, r1⟩ := (r.ext0 x).get e
  exact ⟨⟨vs, v, q, e1⟩, fun y H' ⟨eH, hy⟩ => ⟨W', eH.symm, rfl, .refl _, s, by
    have z := hy vs q
    rw [e1] at z
    cases z
    exact r1⟩⟩
theorem yl_tup {p : Addr} {ds : List D} {vs : List V} (h : ∀ W', Ext0 W W' → SqT G.K W'.H p vs) (r : RelL G W ds vs) : Yl G W (Itt G.K p) ds := fun W' x s => by
  have q := h W' x
  refine ⟨fun i d e => ?_, fun i hi => ⟨vs, q, by rw [← r.length]; exact hi⟩⟩
  obtain ⟨v, e1, r1⟩ := (r.ext0 x).get e
  exact ⟨⟨vs, v, q, e1⟩, fun y H' ⟨eH, hy⟩ => ⟨W', eH.symm, rfl, .refl _, s, by
    have z := hy vs q
    rw [e1] at z
    cases z
    exact r1⟩⟩
theorem sign_ok {x : Str} (h : TxtOk x) {c : Nat} (hc : c ∈ x.cps.toList) : TxtOk ⟨#[c]⟩ := by
  refine ⟨?_, by show 1 ≤ sizeLine; decide⟩
  have z := strOk_mem.mp h.1 c hc
  exact strOk_mem.mpr fun c' hc' => by
    have e : c' = c := by simpa using hc'
    rw [e]; exact z
theorem yl_str {z : Str} (h : TxtOk z) : Yl G W (Its z) (z.cps.toList.map fun c => .str ⟨#[c]⟩) := fun W' x s => by
  refine ⟨fun i d e => ?_, fun i hi => by
    have hi' : (z.cps.toList.map fun c => D.str ⟨#[c]⟩).length ≤ i := hi
    rw [List.length_map, Array.length_toList] at hi'
    exact hi'⟩
  rw [List.getElem?_map] at e
  cases hc : z.cps.toList[i]? with
  | none => rw [hc] at e; cases e
  | some c =>
    rw [hc] at e
    have e' : D.str ⟨#[c]⟩ = d := Option.some.inj e
    subst e'
    have hlt : i < z.cps.size := by
      have q := (List.getElem?_eq_some_iff.mp hc).1
      rwa [Array.length_toList] at q
    refine ⟨hlt, fun y H' hy => ?_⟩
    obtain ⟨eH, c', e1, e2⟩ := hy
    rw [Array.getElem?_toList, e1] at hc
    cases hc
    subst e2
    exact ⟨W', eH.symm, rfl, .refl _, s, .str _ (sign_ok h (by
      have q := Array.mem_of_getElem? e1
      exact Array.mem_toList_iff.mpr q))⟩
theorem zipK_get {ks : List Str} {vs : List V} (l : ks.length = vs.length) (i : Nat) : (zipK ks vs)[i]? = match ks[i]?, vs[i]? with
    | some k, some v => some (Sum.inr k, v)
    | _, _ => none := by
  unfold zipK
  rw [List.zip, List.getElem?_zipWith, List.getElem?_map]
  cases ks[i]? <;> cases vs[i]? <;> rfl
theorem zipK_len {ks : List Str} {vs : List V} (l : ks.length = vs.length) : (zipK ks vs).length = ks.length := by
  unfold zipK; rw [List.length_zip, List.length_map, ← l]; exact Nat.min_self _
theorem yl_keys {p : Addr} {od : Obj} {ks : List Str} {vs : List V} (h : W.H p = some (.frz od (.dK (zipK ks vs)))) (t : ¬ W.T p) (l : ks.length = vs.length) (hk : ∀ k ∈ ks, TxtOk k) : Yl G W (Itk p od (zipK ks vs)) (ks.map .str) := fun W' x s => by
  have q := (x.keep p _ h t nofun).1
  refine ⟨fun i d e => ?_, fun i hi => ⟨q, by rw [zipK_len l]; simpa using hi⟩⟩
  rw [List.getElem?_map] at e
  cases hc : ks[i]? with
  | none => rw [hc] at e; cases e
  | some k =>
    rw [hc] at e
    have e' : D.str k = d := Option.some.inj e
    subst e'
    have hlt := (List.getElem?_eq_some_iff.mp hc).1
    refine ⟨⟨q, by rw [zipK_len l]; exact hlt⟩, fun y H' ⟨eH, k', v, e1, e2⟩ => ⟨W', eH.symm, rfl, .refl _, s, ?_⟩⟩
    rw [zipK_get l, hc] at e1
    cases hv : vs[i]? with
    | none => rw [hv] at e1; cases e1
    | some v' =>
      rw [hv] at e1
      cases e1
      subst e2
      exact .str k (hk k (List.mem_of_getElem? hc))
theorem ints_rl : ∀ ns : List Int, RelL G W (ns.map D.int) (ns.map V.int)
  | [] => .nil
  | n :: r => .cons (.int n) (ints_rl r)
theorem itv {tg : Expr} {pins : List (Addr × Obj)} {s1 : Shared} {σ : L2.St} {R : It → Hp → Prop} {d : D} {v : V} {u : Value} {ds : List D} (hK : X.K = G.K) (I1 : L2.Inv X pins σ W.H s1) (rv : RelV v u) (s : SRel G W) (r : Rel G W d v) (e : itemsS W.st d = some ds) (q : ∀ J, YlG G d W J ds → R J W.H) :
    wpAny (model X.prog X.w) X.A (pyIter u) (PIE X pins σ tg R) X.xe s1 := by
  have lst : ∀ {a : Addr} {vs : List V}, (∀ W', Ext0 W W' → SqL G.K W'.H a vs) → RelL G W ds vs → wpAny (model X.prog X.w) X.A (pyIter (.ref a)) (PIE X pins σ tg R) X.xe s1 := fun {a vs} h r => by
    have hq := h W (.refl W)
    rw [← hK] at hq
    obtain ⟨its, rr, p, hz⟩ := I1.list hq
    refine wpAny_pyIter_list p.isList ?_
    exact pi_one (tk := s1.toks) I1 _ (turn_list (K := X.K) a _) ⟨_, Heap.get?_push_size _ rfl, rfl, rfl⟩ (by rw [hK]; exact q _ (yl_list h r).g)
  cases r with
  | ref n hn =>
    have e' : (match W.st.get n with
      | some (.lst xs) => some xs
      | _ => none) = some ds := e
    cases g : W.st.get n with
    | none => rw [g] at e'; cases e'
    | some o =>
      rw [g] at e'
      cases o with
      | lst xs =>
        cases e'
        cases rv
        cases s.ob n _ g with
        | lst hp rr0 =>
          rename_i vs0
          have hq : SqL X.K W.H (W.al n) vs0 := .inl (.inl hp)
          obtain ⟨its, rr, p, hz⟩ := I1.list hq
          refine wpAny_pyIter_list p.isList ?_
          refine pi_one (tk := s1.toks) I1 _ (turn_list (K := X.K) (W.al n) _) ⟨_, Heap.get?_push_size _ rfl, rfl, rfl⟩ (q _ fun W' x s' sm => ?_)
          have g' : W'.st.get n = some (.lst ds) := sm
          have ea : W'.al n = W.al n := x.at_ n hn
          cases s'.ob n _ g' with
          | lst hp' rr' =>
            rename_i vs1
            rw [ea] at hp'
            have hq' : SqL X.K W'.H (W.al n) vs1 := .inl (.inl hp')
            refine ⟨fun i d e => ?_, fun i hi => ⟨vs1, hq', by rw [← rr'.length]; exact hi⟩⟩
            obtain ⟨v, e1, r1⟩ := rr'.get e
            exact ⟨⟨vs1, v, hq', e1⟩, fun y H' ⟨eH, hy⟩ => ⟨W', eH.symm, rfl, .refl _, s', by
              have z := hy vs1 hq'
              rw [e1] at z
              cases z
              exact r1⟩⟩
      | dct ks vs => cases e'
      | obj c fn fv => cases e'
  | tup h r =>
    cases e
    cases rv
    have hq := h.sq
    rw [← hK] at hq
    obtain ⟨its, rr, p, hz⟩ := I1.tuple hq
    refine wpAny_pyIter_tuple (show s1.heap.IsTuple _ its.toArray from p) ?_
    exact pi_one (tk := s1.toks) I1 _ (turn_tuple (K := X.K) _ _) ⟨_, Heap.get?_push_size _ rfl, rfl, rfl⟩ (by rw [hK]; exact q _ (yl_tup (fun W' x => (h.ext x).sq) r).g)
  | lst h r =>
    cases e
    cases rv
    exact lst (fun W' x => (h.ext x).sq) r
  | str x h =>
    have e' : (x.cps.toList.map fun c => D.str ⟨#[c]⟩) = ds := Option.some.inj e
    subst e'
    obtain ⟨t, rfl⟩ := rv
    cases ha : x.cps.all (· < 128)
    · exact wpAny_pyIter_wide ha (pi_one (tk := s1.toks) I1 _ (turn_str _ x t "str_iterator" (.inr rfl)) ⟨_, Heap.get?_push_size _ rfl, rfl, rfl⟩ (q _ (yl_str h).g))
    · exact wpAny_pyIter_ascii ha (pi_one (tk := s1.toks) I1 _ (turn_str _ x t "str_ascii_iterator" (.inl rfl)) ⟨_, Heap.get?_push_size _ rfl, rfl, rfl⟩ (q _ (yl_str h).g))
  | scr h =>
    rename_i p ns
    have e' : (ns.map D.int) = ds := Option.some.inj e
    subst e'
    cases rv
    exact lst (fun W' x => (h.ext x).sq) (ints_rl ns)
  | dct h l hk r =>
    rename_i p ks ds' vs
    have e' : (ks.map D.str) = ds := Option.some.inj e
    subst e'
    cases rv
    obtain ⟨⟨od, hd⟩, ht⟩ := h
    obtain ⟨hs, hgd, hx, es, ep, kvs, hdt, hsz, kv, hm⟩ := I1.frzK hd
    refine iter_keys hs hgd hx hdt (pi_one (tk := s1.toks) I1 _ (turn_keys _ hdt) ⟨_, Heap.get?_push_size _ rfl, rfl, ?_⟩ (q _ (yl_keys hd ht (l.trans r.length) hk).g))
    rw [hsz] <;> rfl
  | _ => cases e
theorem se_iter {tg e : Expr} {ex : Ex} (hK : X.K = G.K) (he : PE X e (RE G Ww C ex)) : PI X tg e (RI G Ww C ex) := by
  refine ⟨fun pins s σ H R I h => ?_⟩
  obtain ⟨W, φ, rfl, f, sr, h⟩ := h
  have h1 : RE G Ww C ex σ W.H (fun v H1 => ∃ W1 d ds, W1.H = H1 ∧ SRel G W1 ∧ Rel G W1 d v ∧ itemsS W1.st d = some ds ∧ ∀ J, YlG G d W1 J ds → R J W1.H) :=
    RE.step f sr h fun d W1 v q1 x1 f1 s1 r1 => let ⟨ds, e, q⟩ := q1; ⟨W1, d, ds, rfl, s1, r1, e, fun J y => q W1 J rfl x1 s1 y⟩
  refine thn (he.run pins s σ W.H _ I h1) fun u s1 ⟨v, H1, I1, r1, q1⟩ => ?_
  obtain ⟨W1, d, ds, rfl, s1r, r, e, q⟩ := q1
  exact itv hK I1 r1 s1r r e q
theorem yl_range {lo : Int} {n : Nat} : Yl G W (Itr lo n) ((List.range n).map fun (k : Nat) => .int (lo + (k : Int))) := fun W' x s => by
  refine ⟨fun i d e => ?_, fun i hi => by
    have hi' : ((List.range n).map fun (k : Nat) => D.int (lo + (k : Int))).length ≤ i := hi
    rw [List.length_map, List.length_range] at hi'
    exact hi'⟩
  rw [List.getElem?_map] at e
  cases hc : (List.range n)[i]? with
  | none => rw [hc] at e; cases e
  | some c =>
    rw [hc] at e
    have e' : D.int (lo + (c : Int)) = d := Option.some.inj e
    subst e'
    obtain ⟨h1, h2⟩ := List.getElem?_eq_some_iff.mp hc
    rw [List.length_range] at h1
    rw [List.getElem_range] at h2
    subst h2
    exact ⟨h1, fun y H' ⟨eH, ey⟩ => ⟨W', eH.symm, rfl, .refl _, s, by rw [ey]; exact .int _⟩⟩
/-- what a range's run says -/
theorem range_out {i j : Int} {st : Store} {k : D → Store → Prop} {xx : Xc → Store → Prop} (h : wpR (if j - i ≤ 1000000 ∧ i.natAbs < 2 ^ 62 ∧ j.natAbs < 2 ^ 62 then ok (D.lst ((List.range (j - i).toNat).map fun (k : Nat) => .int (i + (k : Int)))) st else none) k xx) :
    (-(2 ^ 62) ≤ i ∧ i < 2 ^ 62 ∧ -(2 ^ 62) ≤ j ∧ j < 2 ^ 62) ∧ k (.lst ((List.range (j - i).toNat).map fun (k : Nat) => .int (i + (k : Int)))) st := by
  by_cases z : j - i ≤ 1000000 ∧ i.natAbs < 2 ^ 62 ∧ j.natAbs < 2 ^ 62
  · rw [if_pos z] at h
    exact ⟨by omega, h⟩
  · rw [if_neg z] at h
    exact h.elim
theorem se_range1 {tg a : Expr} {ea : Ex} {p pos : Pos} (hg : Gl X "range") (hm : X.mg "range" = none) (ha : PE X a (RE G Ww C ea)) (hs : noStar a = true) : PI X tg (.Call (.Name "range" p) [a] [] pos) (RI G Ww C (.range (.cst (.int 0)) ea)) := by
  refine ⟨fun pins s σ H R I h => (pi_range1 hg hm (pa_cons ha pa_nil (star_of hs)) (star_of hs)).run pins s σ H R I ?_⟩
  obtain ⟨W, φ, rfl, f, sr, h⟩ := h
  have h2 : wpR ((evE C ea φ W.st).bind fun y st => match y with
    | .int j => if j - 0 ≤ 1000000 ∧ (0 : Int).natAbs < 2 ^ 62 ∧ j.natAbs < 2 ^ 62 then ok (D.lst ((List.range (j - 0).toNat).map fun (k : Nat) => .int (0 + (k : Int)))) st else none
    | _ => none) (fun d st' => ∃ ds, itemsS st' d = some ds ∧ ∀ W' J, W'.st = st' → Ext W W' → SRel G W' → YlG G d W' J ds → R J W'.H) (Xf G Ww σ W) := by
    refine wpR_bind.mpr (wpR_mono (wpR_bind.mp (show wpR ((ok (D.int 0) W.st).bind fun x st => (evE C ea φ st).bind fun y st => match x, y with
      | .int i, .int j => if j - i ≤ 1000000 ∧ i.natAbs < 2 ^ 62 ∧ j.natAbs < 2 ^ 62 then ok (D.lst ((List.range (j - i).toNat).map fun (k : Nat) => .int (i + (k : Int)))) st else none
      | _, _ => none) _ _ from h)) (fun y st q => ?_) fun _ _ q => q)
    cases y <;> exact q
  refine RE.step f sr (wpR_bind.mp h2) fun d W1 v q1 x1 f1 s1 r1 => ?_
  cases r1 with
  | int j =>
    obtain ⟨bd, ds, e, q⟩ := range_out q1
    cases e
    refine ⟨j, rfl, bd.2.2.1, bd.2.2.2, q W1 _ rfl x1 s1 ?_⟩
    have e : j.toNat = (j - 0).toNat := by rw [Int.sub_zero]
    rw [e]
    exact yl_range.g
  | _ => exact (show False from q1).elim
theorem se_range2 {tg a b : Expr} {ea eb : Ex} {p pos : Pos} (hg : Gl X "range") (hm : X.mg "range" = none) (ha : PE X a (RE G Ww C ea)) (hb : PE X b (RE G Ww C eb)) (hs : noStar a = true) (hs2 : noStar b = true) : PI X tg (.Call (.Name "range" p) [a, b] [] pos) (RI G Ww C (.range ea eb)) := by
  refine ⟨fun pins s σ H R I h => (pi_range2 hg hm (pa_cons ha (pa_cons hb pa_nil (star_of hs2)) (star_of hs)) (by rw [star_of hs, star_of hs2] <;> rfl) (star_of hs2)).run pins s σ H R I ?_⟩
  obtain ⟨W, φ, rfl, f, sr, h⟩ := h
  have h' : wpR ((evE C ea φ W.st).bind fun x st => (evE C eb φ st).bind fun y st => match x, y with
      | .int i, .int j => if j - i ≤ 1000000 ∧ i.natAbs < 2 ^ 62 ∧ j.natAbs < 2 ^ 62 then ok (D.lst ((List.range (j - i).toNat).map fun (k : Nat) => .int (i + (k : Int)))) st else none
      | _, _ => none) (fun d st' => ∃ ds, itemsS st' d = some ds ∧ ∀ W' J, W'.st = st' → Ext W W' → SRel G W' → YlG G d W' J ds → R J W'.H) (Xf G Ww σ W) := h
  refine RE.step f sr (wpR_bind.mp h') fun x W1 v q1 x1 f1 s1 r1 => ?_
  refine RE.step f1 s1 (Xf.from x1 (wpR_bind.mp q1)) fun y W2 v2 q2 x2 f2 s2 r2 => ?_
  cases r1 with
  | int i =>
    cases r2 with
    | int j =>
      obtain ⟨bd, ds, e, q⟩ := range_out q2
      cases e
      exact ⟨i, j, rfl, bd, q W2 _ rfl (x1.trans x2) s2 yl_range.g⟩
    | _ => exact (show False from q2).elim
  | _ => exact (show False by cases y <;> exact q2).elim
end
end OM
namespace OM
open PySem PySem.Spec L2
section
variable {G : GX} {W : Wl}
def Wl.build (W : Wl) (q : Addr) : Wl := { W with H := upd W.H q (.lst []), B := fun p => W.B p ∨ p = q }
def Wl.app (W : Wl) (q : Addr) (vs : List V) : Wl := { W with H := upd W.H q (.lst vs) }
def Wl.done (W : Wl) (q : Addr) : Wl := { W with B := fun p => W.B p ∧ p ≠ q }
def Wl.doneR (W : Wl) (q : Addr) (ds : List D) : Wl := { al := fun n => if n = W.st.next then q else W.al n, st := W.st.new (.lst ds), H := W.H, B := fun p => W.B p ∧ p ≠ q }
theorem Wl.build_ext {q : Addr} (h : W.H q = none) : Ext W (W.build q) := by
  have k : ∀ p u, W.H p = some u → (W.build q).H p = some u := fun p u e => by
    show upd W.H q _ p = some u
    rw [upd_ne (ne_of_none e h)]
    exact e
  refine ⟨⟨Nat.le_refl _, fun _ _ => rfl, fun p u e t _ => ⟨k p u e, fun tt => ?_⟩⟩, fun p u b e => ⟨.inl b, k p u e⟩⟩
  rcases tt with tt | b | z
  · exact t (.inl tt)
  · exact t (.inr b)
  · exact ne_of_none e h z
theorem Wl.build_s {q : Addr} (s : SRel G W) (h : W.H q = none) : SRel G (W.build q) := by
  have ne : ∀ n o, W.st.get n = some o → W.al n ≠ q := fun n o e z => Wl.notT s h (.inl ⟨n, o, e, z⟩)
  refine ⟨s.lt, s.inj, fun n o e => (s.ob n o e).ext (W.build_ext h).toExt0 ?_, fun p b => ?_, fun n o e b => ?_, tab_of s (tab_new h)⟩
  · exact upd_ne (ne n o e)
  · rcases b with b | z
    · obtain ⟨u, e, pu⟩ := s.bok p b
      exact ⟨u, ((W.build_ext h).bld p u b e).2, pu⟩
    · rw [z]; exact ⟨_, upd_same, trivial⟩
  · rcases b with b | z
    · exact s.bsep n o e b
    · exact ne n o e z
theorem Wl.app_ext {q : Addr} {vs : List V} (b : W.B q) : Ext0 W (W.app q vs) :=
  ⟨Nat.le_refl _, fun _ _ => rfl, fun p u e t _ => ⟨(upd_ne fun (z : p = q) => t (.inr (z ▸ b))).trans e, t⟩⟩
theorem Wl.app_s {q : Addr} {vs : List V} (s : SRel G W) (b : W.B q) : SRel G (W.app q vs) := by
  refine ⟨s.lt, s.inj, fun n o e => (s.ob n o e).ext (W.app_ext b) (upd_ne fun (z : W.al n = q) => s.bsep n o e (z ▸ b)), fun p hb => ?_, s.bsep, tab_of s (tab_T s (.inr b))⟩
  by_cases z : p = q
  · rw [z]; exact ⟨_, upd_same, trivial⟩
  · obtain ⟨u, e, pu⟩ := s.bok p hb
    exact ⟨u, (upd_ne z).trans e, pu⟩
theorem Wl.done_T {q p : Addr} (t : (W.done q).T p) : W.T p := by
  rcases t with t | b
  · exact .inl t
  · exact .inr b.1
theorem Wl.done_ext0 {q : Addr} : Ext0 W (W.done q) := ⟨Nat.le_refl _, fun _ _ => rfl, fun p u e t _ => ⟨e, fun tt => t (Wl.done_T tt)⟩⟩
theorem Wl.done_s {q : Addr} (s : SRel G W) : SRel G (W.done q) := ⟨s.lt, s.inj, fun n o e => (s.ob n o e).ext W.done_ext0 rfl, fun p b => s.bok p b.1, fun n o e b => s.bsep n o e b.1, s.tab⟩
theorem Wl.done_lst {q : Addr} {ds : List D} {vs : List V} (s : SRel G W) (b : W.B q) (h : W.H q = some (.lst vs)) (r : RelL G W ds vs) : Rel G (W.done q) (.lst ds) (.ref q) := by
  refine .lst ⟨h, fun t => ?_⟩ (r.ext0 W.done_ext0)
  rcases t with ⟨n, o, e, z⟩ | ⟨_, z⟩
  · exact s.bsep n o e (by rw [show W.al n = q from z]; exact b)
  · exact z rfl
theorem Wl.doneR_ext0 {q : Addr} {ds : List D} (b : W.B q) : Ext0 W (W.doneR q ds) := by
  refine ⟨Nat.le_succ _, fun n hn => if_neg (Nat.ne_of_lt hn), fun p u e t _ => ⟨e, fun tt => ?_⟩⟩
  rcases tt with ⟨n, o, g, z⟩ | ⟨hb, _⟩
  · by_cases hn : n = W.st.next
    · have z' : (if n = W.st.next then q else W.al n) = p := z
      rw [if_pos hn] at z'
      exact t (.inr (z' ▸ b))
    · have g' : (if n = W.st.next then some (Ob.lst ds) else W.st.get n) = some o := g
      have z' : (if n = W.st.next then q else W.al n) = p := z
      rw [if_neg hn] at g' z'
      exact t (.inl ⟨n, o, g', z'⟩)
  · exact t (.inr hb)
theorem Wl.doneR_s {q : Addr} {ds : List D} {vs : List V} (s : SRel G W) (b : W.B q) (h : W.H q = some (.lst vs)) (r : RelL G W ds vs) : SRel G (W.doneR q ds) := by
  have ext := W.doneR_ext0 (ds := ds) b
  have cases_ : ∀ n o, (W.doneR q ds).st.get n = some o → (n = W.st.next ∧ o = .lst ds) ∨ (n ≠ W.st.next ∧ W.st.get n = some o) := fun n o g => by
    have g' : (if n = W.st.next then some (Ob.lst ds) else W.st.get n) = some o := g
    by_cases hn : n = W.st.next
    · rw [if_pos hn] at g'; cases g'; exact .inl ⟨hn, rfl⟩
    · rw [if_neg hn] at g'; exact .inr ⟨hn, g'⟩
  have old : ∀ n o, W.st.get n = some o → (W.doneR q ds).al n = W.al n ∧ W.al n ≠ q := fun n o g =>
    ⟨if_neg (Nat.ne_of_lt (s.lt n o g)), fun z => s.bsep n o g (by rw [z]; exact b)⟩
  have new : (W.doneR q ds).al W.st.next = q := if_pos rfl
  refine ⟨fun n o g => ?_, fun n m o o' g g' e => ?_, fun n o g => ?_, fun p hb => s.bok p hb.1, fun n o g => ?_, s.tab⟩
  · rcases cases_ n o g with ⟨rfl, _⟩ | ⟨_, g⟩
    · exact Nat.lt_succ_self _
    · exact Nat.lt_succ_of_lt (s.lt n o g)
  · rcases cases_ n o g with ⟨rfl, _⟩ | ⟨_, g1⟩
    · rcases cases_ m o' g' with ⟨rfl, _⟩ | ⟨_, g2⟩
      · rfl
      · rw [new, (old m o' g2).1] at e
        exact absurd e.symm (old m o' g2).2
    · rcases cases_ m o' g' with ⟨rfl, _⟩ | ⟨_, g2⟩
      · rw [new, (old n o g1).1] at e
        exact absurd e (old n o g1).2
      · rw [(old n o g1).1, (old m o' g2).1] at e
        exact s.inj n m o o' g1 g2 e
  · rcases cases_ n o g with ⟨rfl, rfl⟩ | ⟨_, g1⟩
    · rw [new]
      exact .lst h (r.ext0 ext)
    · rw [(old n o g1).1]
      exact (s.ob n o g1).ext ext rfl
  · rcases cases_ n o g with ⟨rfl, rfl⟩ | ⟨_, g1⟩
    · rw [new]
      exact fun b => b.2 rfl
    · rw [(old n o g1).1]
      exact fun b => s.bsep n o g1 b.1
theorem Wl.doneR_ref {q : Addr} {ds : List D} : Rel G (W.doneR q ds) (.ref W.st.next) (.ref q) := by
  have z := Rel.ref (G := G) (W := W.doneR q ds) W.st.next (Nat.lt_succ_self _)
  have e : (W.doneR q ds).al W.st.next = q := if_pos rfl
  rw [e] at z
  exact z
/-- what is wanted of the built list -/
theorem Lf.built {W0 : Wl} {q : Addr} {m : Bool} {ds : List D} {vs : List V} {d' : D} {st' : Store} {Q : VK} (x : Ext W0 W) (hq : W0.H q = none) (s : SRel G W) (b : W.B q) (h : W.H q = some (.lst vs)) (r : RelL G W ds vs) (e : OM.mk m (.lst ds) W.st = ok d' st') (l : Lf G W0 d' st' Q) : Q (.ref q) W.H := by
  cases m with
  | false =>
    cases e
    refine l (W.done q) _ rfl ⟨x.toExt0.trans W.done_ext0, fun p u b0 e0 => ?_⟩ (Wl.done_s s) (Wl.done_lst s b h r)
    have z := x.bld p u b0 e0
    exact ⟨⟨z.1, ne_of_none e0 hq⟩, z.2⟩
  | true =>
    have e' : ok (D.ref W.st.next) (W.st.new (.lst ds)) = ok d' st' := e
    cases e'
    refine l (W.doneR q ds) _ rfl ⟨x.toExt0.trans (W.doneR_ext0 b), fun p u b0 e0 => ?_⟩ (Wl.doneR_s s b h r) Wl.doneR_ref
    have z := x.bld p u b0 e0
    exact ⟨⟨z.1, ne_of_none e0 hq⟩, z.2⟩
end
theorem wipe_get (σ : L2.St) (i : Nat) : ∀ vs : List Nat, (wipe σ vs)[i]? = if i ∈ vs then (σ[i]?).map (fun _ => none) else σ[i]?
  | [] => by simp [wipe]
  | v :: vs => by
    unfold wipe
    have ih := wipe_get σ i vs
    by_cases hv : v = i
    · subst hv
      rw [List.getElem?_set_self', if_pos (List.mem_cons_self ..), ih]
      split <;> (cases σ[v]? <;> rfl)
    · rw [List.getElem?_set_ne hv, ih]
      have e : (i ∈ v :: vs) = (i ∈ vs) := by
        rw [List.mem_cons]
        exact propext ⟨fun z => z.elim (fun z => absurd z.symm hv) id, .inr⟩
      simp only [e]
/-- alike but for some slots -/
def Off (vs : List Nat) (σ σ' : L2.St) : Prop := σ'.length = σ.length ∧ ∀ i, i ∉ vs → σ'[i]? = σ[i]?
theorem Off.trans {vs us : List Nat} {σ σ1 σ2 : L2.St} (a : Off vs σ σ1) (b : Off us σ1 σ2) : Off (vs ++ us) σ σ2 :=
  ⟨b.1.trans a.1, fun i h => (b.2 i fun z => h (List.mem_append_right _ z)).trans (a.2 i fun z => h (List.mem_append_left _ z))⟩
theorem Off.wipe {vs : List Nat} {σ σ' : L2.St} (a : Off vs (L2.wipe σ vs) σ') : L2.wipe σ' vs = L2.wipe σ vs := by
  have hl : σ'.length = σ.length := a.1.trans (wipe_length σ vs)
  apply List.ext_getElem?
  intro i
  rw [wipe_get, wipe_get]
  by_cases h : i ∈ vs
  · rw [if_pos h, if_pos h]
    by_cases hi : i < σ.length
    · rw [List.getElem?_eq_getElem hi, List.getElem?_eq_getElem (hl ▸ hi)] <;> rfl
    · rw [List.getElem?_eq_none (by omega), List.getElem?_eq_none (by omega)]
  · rw [if_neg h, if_neg h, a.2 i h, wipe_get, if_neg h]
theorem wipeF_get (φ : Fr) (i : Nat) {d : D} : ∀ {vs : List Nat}, (wipeF φ vs)[i]? = some (some d) → φ[i]? = some (some d) ∧ i ∉ vs
  | [], h => ⟨h, by simp⟩
  | v :: vs, h => by
    unfold wipeF at h
    by_cases hv : v = i
    · subst hv
      rw [List.getElem?_set_self'] at h
      cases e : (wipeF φ vs)[v]? with
      | none => rw [e] at h; cases h
      | some o => rw [e] at h; cases h
    · rw [List.getElem?_set_ne hv] at h
      obtain ⟨h1, h2⟩ := wipeF_get φ i h
      exact ⟨h1, fun z => (List.mem_cons.mp z).elim (fun z => hv z.symm) h2⟩
theorem wipeF_length (φ : Fr) : ∀ vs : List Nat, (wipeF φ vs).length = φ.length
  | [] => rfl
  | v :: vs => by unfold wipeF; rw [List.length_set, wipeF_length φ vs]
theorem FRel.wipe {G : GX} {W : Wl} {φ : Fr} {σ : L2.St} (f : FRel G W φ σ) (vs : List Nat) : FRel G W (wipeF φ vs) (L2.wipe σ vs) := by
  refine ⟨by rw [wipeF_length, wipe_length, f.len], fun i d h => ?_⟩
  obtain ⟨h1, h2⟩ := wipeF_get φ i h
  obtain ⟨v, e, r⟩ := f.at_ i d h1
  exact ⟨v, by rw [wipe_get, if_neg h2]; exact e, r⟩
def RG (G : GX) (t : Tg) : TG := fun v σ H Q => ∃ W φ d φ', W.H = H ∧ FRel G W φ σ ∧ SRel G W ∧ Rel G W d v ∧ bindT W.st t d φ = some φ' ∧ ∀ σ', FRel G W φ' σ' → Off t.slots σ σ' → Q σ' W.H
def RGs (G : GX) (ts : List Tg) : TGs := fun vs σ H Q => ∃ W φ ds φ', W.H = H ∧ FRel G W φ σ ∧ SRel G W ∧ RelL G W ds vs ∧ bindTs W.st ts ds φ = some φ' ∧ ∀ σ', FRel G W φ' σ' → Off (Tg.slotsL ts) σ σ' → Q σ' W.H
theorem PG.of {X : Cx} {e : Expr} {t t' : TG} (h : PG X e t) (k : ∀ v σ H Q, t' v σ H Q → t v σ H Q) : PG X e t' := ⟨fun pins s σ H v u Q I r q => h.run pins s σ H v u Q I r (k v σ H Q q)⟩
theorem PGs.of {X : Cx} {e : List Expr} {t t' : TGs} (h : PGs X e t) (k : ∀ v σ H Q, t' v σ H Q → t v σ H Q) : PGs X e t' := ⟨fun pins s σ H v u Q I r q => h.run pins s σ H v u Q I r (k v σ H Q q)⟩
section
variable {G : GX} {X : Cx}
theorem sg_nm {i : Nat} {x : Str} {pos : Pos} (hN : X.N.Nodup) (hi : X.N[i]? = some x) (hx : Loc X.env.scope x) (hf : X.fn x = true ∨ X.env.scope.names.lookup x = some .local) : PG X (.Name x pos) (RG G (.nm i)) := by
  refine PG.of (pg_name hN hi hx hf) fun v σ H Q h => ?_
  obtain ⟨W, φ, d, φ', rfl, f, s, r, e, q⟩ := h
  have e' : some (φ.set i (some d)) = some φ' := e
  cases e'
  exact q _ (f.set i r) ⟨List.length_set .., fun j hj => List.getElem?_set_ne fun z => hj (by rw [← z]; exact List.mem_singleton.mpr rfl)⟩
theorem sgs_nil : PGs X [] (RGs G []) := by
  refine PGs.of pgs_nil fun v σ H Q h => ?_
  obtain ⟨W, φ, ds, φ', rfl, f, s, r, e, q⟩ := h
  cases r with
  | nil =>
    have e' : some φ = some φ' := e
    cases e'
    exact ⟨rfl, q σ f ⟨rfl, fun _ _ => rfl⟩⟩
  | cons _ _ => cases e
theorem astar {e : Expr} {es : List Expr} {env : Env} (h : noStar e = true) : assignEach (e :: es) env = (false, assign e env) :: assignEach es env := by
  cases e <;> first | rfl | cases h
theorem sgs_cons {e : Expr} {es : List Expr} {t : Tg} {ts : List Tg} (h1 : PG X e (RG G t)) (h2 : PGs X es (RGs G ts)) (hs : noStar e = true) : PGs X (e :: es) (RGs G (t :: ts)) := by
  refine PGs.of (pgs_cons h1 h2 (by rw [astar hs] <;> rfl)) fun v σ H Q h => ?_
  obtain ⟨W, φ, ds, φ', rfl, f, s, r, e, q⟩ := h
  cases r with
  | nil => cases e
  | cons r rr =>
    rename_i d v0 ds vs
    have e' : (match bindT W.st t d φ with
      | some φ1 => bindTs W.st ts ds φ1
      | none => none) = some φ' := e
    cases e1 : bindT W.st t d φ with
    | none => rw [e1] at e'; cases e'
    | some φ1 =>
      rw [e1] at e'
      exact ⟨_, _, rfl, W, φ, d, φ1, rfl, f, s, r, e1, fun σ1 f1 o1 => ⟨W, φ1, ds, φ', rfl, f1, s, rr, e', fun σ2 f2 o2 => q σ2 f2 (o1.trans o2)⟩⟩
theorem aeach_len {env : Env} : ∀ es : List Expr, (assignEach es env).length = es.length
  | [] => rfl
  | e :: es => by
    have ih := aeach_len (env := env) es
    cases e <;> (show (assignEach es env).length + 1 = es.length + 1; rw [ih])
theorem aeach_star {env : Env} : ∀ {es : List Expr}, es.all noStar = true → (assignEach es env).findIdx? (·.1) = none
  | [], _ => rfl
  | e :: es, h => by
    rw [List.all_cons, Bool.and_eq_true] at h
    rw [astar h.1, List.findIdx?_cons]
    simp [aeach_star h.2]
theorem bindTs_len {st : Store} : ∀ {ts : List Tg} {ds : List D} {φ φ' : Fr}, bindTs st ts ds φ = some φ' → ts.length = ds.length
  | [], [], _, _, _ => rfl
  | [], _ :: _, _, _, h => by cases h
  | _ :: _, [], _, _, h => by cases h
  | t :: ts, d :: ds, φ, φ', h => by
    have e' : (match bindT st t d φ with
      | some φ1 => bindTs st ts ds φ1
      | none => none) = some φ' := h
    cases e1 : bindT st t d φ with
    | none => rw [e1] at e'; cases e'
    | some φ1 =>
      rw [e1] at e'
      show ts.length + 1 = ds.length + 1
      rw [bindTs_len e']
/-- (a, b, ..) = a list or a tuple of that length -/
def gSeq (K : PySem.W.Frag) (n : Nat) (t : TGs) : TG := fun v σ H Q => ∃ a xs, v = .ref a ∧ (SqL K H a xs ∨ SqT K H a xs) ∧ xs.length = n ∧ t xs σ H Q
theorem pg_seq {es : List Expr} {k : Nat} {pos : Pos} {t : TGs} {n : Nat} (hc : X.calm = true) (h : PGs X es t)
    (hn : (assignEach es X.env).length = n) (hst : (assignEach es X.env).findIdx? (·.1) = none) : PG X (.Tuple es k pos) (gSeq X.K n t) := by
  refine ⟨fun pins s σ H v u Q I r hw => ?_⟩
  obtain ⟨a, xs, e1, hq, hl, hw⟩ := hw
  subst e1
  cases r
  rcases hq with hq | hq
  · obtain ⟨its, rv, ht, hz⟩ := I.list hq
    have hlen : xs.length = its.length := rv.length
    rw [PyProof.Rows.assign_Tuple]
    refine wpAny_bind (wpAny_standAt ?_)
    unfold unpack
    rw [hst, show (assignEach es X.env).length = its.toArray.size by simp; omega]
    refine wpAny_bind (wpAny_holding (PySem.W.kun_itemsOf (I.ok.hd hc) ht.isList fun h' hx => ?_))
    have I1 : Inv X pins σ H { s with heap := h' } := I.kept (t' := s.toks) fun b o e => hx b o (Nat.ne_of_lt (Heap.lt_size e)) e
    exact h.run pins _ σ H xs _ Q I1 (by simpa using rv) hw
  · obtain ⟨its, rv, ht, hz⟩ := I.tuple hq
    refine PyProof.Rows.assign_Tuple_tuple (I.ok.hd hc) ht (by simp [hn, ← hl, rv.length]) hst fun h' hx => ?_
    have I1 : Inv X pins σ H { s with heap := h' } := I.kept (t' := s.toks) fun b o e => hx b o (Nat.ne_of_lt (Heap.lt_size e)) e
    exact h.run pins _ σ H xs _ Q I1 (by simpa using rv) hw
theorem sg_tp {es : List Expr} {ts : List Tg} {k : Nat} {pos : Pos} (hK : X.K = G.K) (hc : X.calm = true) (h : PGs X es (RGs G ts)) (hl : es.length = ts.length) (hs : es.all noStar = true) : PG X (.Tuple es k pos) (RG G (.tp ts)) := by
  refine PG.of (pg_seq (n := ts.length) hc h ((aeach_len es).trans hl) (aeach_star hs)) fun v σ H Q h => ?_
  obtain ⟨W, φ, d, φ', rfl, f, s, r, e, q⟩ := h
  cases r with
  | tup ht r =>
    rename_i p ds vs
    have e' : bindTs W.st ts ds φ = some φ' := e
    refine ⟨p, vs, rfl, by rw [hK]; exact .inr ht.sq, by rw [← r.length, bindTs_len e'], W, φ, ds, φ', rfl, f, s, r, e', q⟩
  | lst ht r =>
    rename_i p ds vs
    have e' : bindTs W.st ts ds φ = some φ' := e
    refine ⟨p, vs, rfl, by rw [hK]; exact .inl ht.sq, by rw [← r.length, bindTs_len e'], W, φ, ds, φ', rfl, f, s, r, e', q⟩
  | _ => cases e
end
end OM
namespace OM
open PySem PySem.Spec L2
theorem wpR_noX {α : Type} {m : Res α} {k : α → Store → Prop} {x : Xc → Store → Prop} (h : wpR (noX m) k x) : wpR m k (fun _ _ => False) := by
  cases m with
  | none => exact h
  | some o => cases o with
    | ok a st => exact h
    | exc e st => exact (show False from h)
/-- a clause's tests -/
def RC (G : GX) (Ww : WX) (C : Calls) (c : Option Ex) : TT := fun σ H Q => ∃ W φ, W.H = H ∧ FRel G W φ σ ∧ SRel G W ∧ wpR (evC C c φ W.st) (fun b st' => ∀ W', W'.st = st' → Ext W W' → SRel G W' → Q b W'.H) (Xf G Ww σ W)
theorem PTs.of {X : Cx} {e : List Expr} {t t' : TT} (h : PTs X e t) (k : ∀ σ H Q, t' σ H Q → t σ H Q) : PTs X e t' := ⟨fun pins s σ H Q I q => h.run pins s σ H Q I (k σ H Q q)⟩
/-- no exception leaves a block -/
abbrev WN : WX := fun _ _ _ _ => False
section
variable {G : GX} {Ww : WX} {C : Calls} {X : Cx}
theorem sc_none : PTs X [] (RC G Ww C none) := by
  refine PTs.of pts_nil fun σ H Q h => ?_
  obtain ⟨W, φ, rfl, f, s, h⟩ := h
  exact (show ∀ W', W'.st = W.st → Ext W W' → SRel G W' → Q true W'.H from h) W rfl (.refl W) s
theorem sc_some {e : Expr} {ex : Ex} (he : PT X e (RT G Ww C ex)) : PTs X [e] (RC G Ww C (some ex)) := pts_one he
/-- what the turns are to reach -/
structure Tn (G : GX) (W1 : Wl) (q : Addr) (xs : List D) (body : D → Store → Res (Option D)) (k : List D → Store → Prop) (i : Nat) (H : Hp) : Prop where
  ex : ∃ W ds vs, W.H = H ∧ SRel G W ∧ Ext W1 W ∧ W.B q ∧ H q = some (.lst vs) ∧ RelL G W ds vs ∧ ds.length ≤ i ∧ wpR (turns body (xs.drop i) W.st) (fun r st => k (ds ++ r) st) (fun _ _ => False)
theorem turns_go {body : D → Store → Res (Option D)} {x : D} {xs ds : List D} {st : Store} {k : List D → Store → Prop} (h : wpR (turns body (x :: xs) st) (fun r st => k (ds ++ r) st) (fun _ _ => False)) :
    wpR (body x st) (fun o st1 => wpR (turns body xs st1) (fun r st => k ((match o with | some d => ds ++ [d] | none => ds) ++ r) st) (fun _ _ => False)) (fun _ _ => False) := by
  refine wpR_mono (wpR_bind.mp h) (fun o st1 q => ?_) fun _ _ q => q
  refine wpR_mono (wpR_bind.mp q) (fun r st2 q => ?_) fun _ _ q => q
  cases o with
  | none => exact q
  | some d =>
    have q' : k (ds ++ (d :: r)) st2 := q
    rw [List.append_assoc]
    exact q'
theorem comp_core {m : Bool} {own : List (Str × Nat)} {t : Tg} {ee : Ex} {ec : Option Ex} {g : Store → Prop} [DecidablePred g] (hown : own.map (·.2) = t.slots) {σ : L2.St} {W W1 : Wl} {φ : Fr} {J : It} {Q : VK} {xs : List D} {st : Store} (f : FRel G W φ σ)
    (q : wpR (if xs.length < line then (noX (turns (fun d st => if g st then (match bindT st t d (wipeF φ t.slots) with
        | some φ' => (evC C ec φ' st).bind fun b st => if b then (evE C ee φ' st).bind fun y st => ok (some y) st else ok none st
        | none => none) else none) xs st)).bind fun ys st => if g st then OM.mk m (.lst ys) st else none else none) (fun d st' => Lf G W d st' Q) (Xf G Ww σ W)) (a : W1.st = st) (x1 : Ext W W1) (s1 : SRel G W1)
    (yl : ∀ W', Ext0 W1 W' → SRel G W' → g W'.st → (∀ i d, xs[i]? = some d → J.go i W'.H ∧ ∀ x H', J.yld i W'.H x H' → ∃ W'', W''.H = H' ∧ W''.st = W'.st ∧ Ext W' W'' ∧ SRel G W'' ∧ Rel G W'' d x) ∧ ∀ i, xs.length ≤ i → J.stop i W'.H) (q0 : Addr) (hD : W1.H q0 = none) :
    ∃ I : Nat → Nat → Hp → Prop, (∃ n, I 0 n (upd W1.H q0 (.lst []))) ∧ ∀ i n H, I i n H → (J.stop i H ∧ Q (.ref q0) H) ∨ (J.go i H ∧ ∃ Nx : Hp → Prop, (∀ H', Nx H' → ∃ n', n' < n ∧ I (i + 1) n' H') ∧ ∀ x H', J.yld i H x H' → RG G t x (L2.wipe σ (own.map (·.2))) H' fun σ2 H2 => L2.wipe σ2 (own.map (·.2)) = L2.wipe σ (own.map (·.2)) ∧ RC G WN C ec σ2 H2 fun b H3 => if b = true then RE G WN C ee σ2 H3 fun y H4 => ∃ acc, H4 q0 = some (HO.lst acc) ∧ acc.length < sizeLine ∧ Nx (upd H4 q0 (HO.lst (acc ++ [y]))) else Nx H3) := by
  by_cases hz : xs.length < line
  · rw [if_pos hz] at q
    have q1 := wpR_noX (wpR_bind.mp q)
    generalize hbody : (fun d st => if g st then (match bindT st t d (wipeF φ t.slots) with
      | some φ' => (evC C ec φ' st).bind fun b st => if b then (evE C ee φ' st).bind fun y st => ok (some y) st else ok none st
      | none => none) else none : D → Store → Res (Option D)) = body at q1
    generalize hk : (fun ys st => wpR (if g st then OM.mk m (.lst ys) st else none) (fun d st' => Lf G W d st' Q) (Xf G Ww σ W) : List D → Store → Prop) = k at q1
    refine ⟨fun i n H => n = xs.length - i ∧ i ≤ xs.length ∧ Tn G W1 q0 xs body k i H, ⟨_, rfl, Nat.zero_le _, ⟨W1.build q0, [], [], rfl, Wl.build_s s1 hD, Wl.build_ext hD, .inr rfl, upd_same, .nil, Nat.le_refl _, ?_⟩⟩, ?_⟩
    · have q2 : wpR (turns body xs st) (fun r st => k ([] ++ r) st) (fun _ _ => False) := q1
      rw [← a] at q2
      exact q2
    rintro i n H ⟨rfl, hi, tn⟩
    obtain ⟨W2, ds, vs, rfl, s2, x2, b2, hD2, r2, hl2, q2⟩ := tn.ex
    have hg2 : g W2.st := by
      by_cases hlt : i < xs.length
      · rw [List.drop_eq_getElem_cons hlt] at q2
        have q3 := turns_go q2
        rw [← hbody] at q3
        by_cases z : g W2.st
        · exact z
        · dsimp only at q3
          rw [if_neg z] at q3
          exact (show False from q3).elim
      · have e : i = xs.length := by omega
        rw [e, List.drop_length] at q2
        have q3 : k (ds ++ []) W2.st := q2
        rw [← hk] at q3
        by_cases z : g W2.st
        · exact z
        · rw [if_neg z] at q3
          exact (show False from q3).elim
    have yy := yl W2 x2.toExt0 s2 hg2
    by_cases hlt : i < xs.length
    · refine .inr ⟨(yy.1 i xs[i] (List.getElem?_eq_getElem hlt)).1, Tn G W1 q0 xs body k (i + 1), fun H' t' => ⟨xs.length - (i + 1), by omega, rfl, hlt, t'⟩, fun x H' hy => ?_⟩
      obtain ⟨W3, rfl, e3, x3, s3, r3⟩ := (yy.1 i xs[i] (List.getElem?_eq_getElem hlt)).2 x H' hy
      rw [List.drop_eq_getElem_cons hlt] at q2
      have q3 := turns_go q2
      rw [← e3, ← hbody] at q3
      dsimp only at q3
      rw [if_pos (e3 ▸ hg2 : g W3.st)] at q3
      rw [hown]
      have f3 : FRel G W3 φ σ := ((f.ext (x1)).ext x2).ext x3
      cases eb : bindT W3.st t xs[i] (wipeF φ t.slots) with
      | none =>
        rw [eb] at q3
        exact (show False from q3).elim
      | some φ' =>
        rw [eb] at q3
        refine ⟨W3, wipeF φ t.slots, xs[i], φ', rfl, f3.wipe _, s3, r3, eb, fun σ' f' off => ⟨off.wipe, W3, φ', rfl, f', s3, wpR_mono (wpR_bind.mp q3) (fun b st q4 W4 e4 x4 s4 => ?_) fun _ _ z => z.elim⟩⟩
        have keep : ∀ {W5 : Wl}, Ext W3 W5 → W5.B q0 ∧ W5.H q0 = some (.lst vs) := fun {W5} x5 => by
          have z := x3.bld q0 _ b2 hD2
          exact x5.bld q0 _ z.1 z.2
        cases b with
        | false =>
          have q5 : wpR (turns _ (xs.drop (i + 1)) st) (fun r st => k (ds ++ r) st) (fun _ _ => False) := q4
          rw [hbody, ← e4] at q5
          refine (if_neg (by decide) : (if false = true then _ else Tn G W1 q0 xs body k (i + 1) W4.H) = _).mpr ?_
          exact ⟨W4, ds, vs, rfl, s4, (x2.trans x3).trans x4, (keep x4).1, (keep x4).2, (r2.ext x3).ext x4, Nat.le_succ_of_le hl2, q5⟩
        | true =>
          refine (if_pos rfl : (if true = true then (RE G WN C ee σ' W4.H fun y H4 => ∃ acc, H4 q0 = some (HO.lst acc) ∧ acc.length < sizeLine ∧ Tn G W1 q0 xs body k (i + 1) (upd H4 q0 (HO.lst (acc ++ [y])))) else Tn G W1 q0 xs body k (i + 1) W4.H) = _).mpr ?_
          have q5 := wpR_bind.mp q4
          rw [← e4] at q5
          refine ⟨W4, φ', rfl, f'.ext x4, s4, wpR_mono q5 (fun y st5 q6 W5 v5 e5 x5 s5 r5 => ?_) fun _ _ z => z.elim⟩
          have q7 : wpR (turns _ (xs.drop (i + 1)) st5) (fun r st => k ((ds ++ [y]) ++ r) st) (fun _ _ => False) := q6
          rw [hbody, ← e5] at q7
          have kp := keep (x4.trans x5)
          have lv : vs.length = ds.length := r2.length.symm
          refine ⟨vs, kp.2, by rw [← line_eq]; omega, ⟨W5.app q0 (vs ++ [v5]), ds ++ [y], vs ++ [v5], rfl, Wl.app_s s5 kp.1, ?_, kp.1, upd_same, ?_, by rw [List.length_append]; exact Nat.succ_le_succ hl2, q7⟩⟩
          · have x15 : Ext W1 W5 := ((x2.trans x3).trans x4).trans x5
            refine ⟨x15.toExt0.trans (Wl.app_ext kp.1), fun p u b0 e0 => ?_⟩
            have z := x15.bld p u b0 e0
            exact ⟨z.1, (upd_ne (ne_of_none e0 hD)).trans z.2⟩
          · exact ((((r2.ext x3).ext x4).ext x5).ext0 (Wl.app_ext kp.1)).append (.cons (r5.ext0 (Wl.app_ext kp.1)) .nil)
    · have e : i = xs.length := by omega
      refine .inl ⟨yy.2 i (by omega), ?_⟩
      rw [e, List.drop_length] at q2
      have q3 : k (ds ++ []) W2.st := q2
      rw [List.append_nil, ← hk] at q3
      rw [if_pos hg2] at q3
      rcases wpR_run q3 with ⟨d', st', em, lf⟩ | ⟨e', st', em, _⟩
      · exact Lf.built x2 hD s2 b2 hD2 r2 em (lf.from x1)
      · cases m <;> cases em
  · rw [if_neg hz] at q
    exact q.elim
theorem se_comp {m : Bool} {elt tg iter : Expr} {ifs : List Expr} {scope : Scope} {own : List (Str × Nat)} {pos : Pos} {t : Tg} {ei ee : Ex} {ec : Option Ex} (hK : X.K = G.K) (hc : X.calm = true) (hN : X.N.Nodup) (hi : PI X tg iter (RI G Ww C ei)) (blk : BlkOk X.N X.env.scope scope own) (hown : own.map (·.2) = t.slots)
    (hg : ∀ (s : Shared) (H : Hp) (L : Addr) (cl : List (Str × Addr)) (fp : List Addr), PG (X.blk s H scope (compEnvC scope cl L X.env) fp) tg (RG G t))
    (ht : ∀ (s : Shared) (H : Hp) (L : Addr) (cl : List (Str × Addr)) (fp : List Addr), PTs (X.blk s H scope (compEnvC scope cl L X.env) fp) ifs (RC G WN C ec))
    (he : ∀ (s : Shared) (H : Hp) (L : Addr) (cl : List (Str × Addr)) (fp : List Addr), PE (X.blk s H scope (compEnvC scope cl L X.env) fp) elt (RE G WN C ee))
    {σ : L2.St} {H : Hp} {Q : VK} (h : RE G Ww C (.comp m t ei ec ee) σ H Q) : tLc (RI G Ww C ei) (RG G t) (RC G WN C ec) (RE G WN C ee) (own.map (·.2)) σ H Q := by
  obtain ⟨W, φ, rfl, f, s, h⟩ := h
  refine ⟨W, φ, rfl, f, s, wpR_mono (wpR_bind.mp h) (fun d st q => ?_) fun _ _ q => q⟩
  cases e0 : itemsOf d with
  | none =>
    rw [e0] at q
    dsimp only at q
    cases e1 : itemsS st d with
    | none => rw [e1] at q; exact q.elim
    | some xs =>
      rw [e1] at q
      exact ⟨xs, rfl, fun W1 J a x1 s1 yl q0 hD => comp_core (g := Same d xs) hown f q a x1 s1 yl q0 hD⟩
  | some xs =>
    rw [e0] at q
    refine ⟨xs, itemsS_of _ e0, fun W1 J a x1 s1 yl q0 hD => comp_core (m := m) (Ww := Ww) (g := fun _ => True) hown f ?_ a x1 s1 (fun W' x s _ => yl.of e0 W' x s) q0 hD⟩
    simp only [if_true]
    exact q
/-- as a value -/
theorem se_lc {m : Bool} {elt tg iter : Expr} {ifs : List Expr} {scope : Scope} {own : List (Str × Nat)} {pos : Pos} {t : Tg} {ei ee : Ex} {ec : Option Ex} (hK : X.K = G.K) (hc : X.calm = true) (hN : X.N.Nodup) (hi : PI X tg iter (RI G Ww C ei)) (ok : BlkOk X.N X.env.scope scope own) (hown : own.map (·.2) = t.slots)
    (hg : ∀ (s : Shared) (H : Hp) (L : Addr) (cl : List (Str × Addr)) (fp : List Addr), PG (X.blk s H scope (compEnvC scope cl L X.env) fp) tg (RG G t))
    (ht : ∀ (s : Shared) (H : Hp) (L : Addr) (cl : List (Str × Addr)) (fp : List Addr), PTs (X.blk s H scope (compEnvC scope cl L X.env) fp) ifs (RC G WN C ec))
    (he : ∀ (s : Shared) (H : Hp) (L : Addr) (cl : List (Str × Addr)) (fp : List Addr), PE (X.blk s H scope (compEnvC scope cl L X.env) fp) elt (RE G WN C ee)) (hs : ∀ x, foldedSetIterable iter X.env x = pure x) :
    PE X (.ListComp elt [⟨tg, iter, ifs, 0⟩] scope pos) (RE G Ww C (.comp m t ei ec ee)) :=
  PE.of (pe_lc hc hN hi ok hg ht he hs) fun σ H Q h => se_comp (pos := pos) hK hc hN hi ok hown hg ht he h
end
end OM
namespace OM
open PySem PySem.Spec L2
/-- a run of statements ends as D wishes -/
def wpS (G : GX) (Ww : WX) (W0 : Wl) (E : Ends) (r : SR) : Prop :=
  match r with
  | some (.nx φ st) => ∀ W σ, W.st = st → Ext W0 W → SRel G W → FRel G W φ σ → E.nx σ W.H
  | some (.ret d st) => ∀ W v, W.st = st → Ext W0 W → SRel G W → Rel G W d v → E.rt v W.H
  | some (.brk φ st) => ∀ W σ, W.st = st → Ext W0 W → SRel G W → FRel G W φ σ → E.bk σ W.H
  | some (.cnt φ st) => ∀ W σ, W.st = st → Ext W0 W → SRel G W → FRel G W φ σ → E.ct σ W.H
  | some (.exc x φ st) => ∀ W σ cls d, W.st = st → Ext W0 W → SRel G W → FRel G W φ σ → XRel G W x cls d → Ww cls d σ W.H
  | none => False
section
variable (G : GX) (Ww : WX) (C : Calls)
def RS (s : Sm) : TS := fun E σ H => ∃ W φ, W.H = H ∧ FRel G W φ σ ∧ SRel G W ∧ wpS G Ww W E (evS C s φ W.st)
def RSs (ss : List Sm) : TS := fun E σ H => ∃ W φ, W.H = H ∧ FRel G W φ σ ∧ SRel G W ∧ wpS G Ww W E (evSs C ss φ W.st)
end
theorem PS.of {X : Cx} {st : Stmt} {t t' : TS} (h : PS X st t) (k : ∀ D σ H, t' D σ H → t D σ H) : PS X st t' := ⟨fun pins s σ H D I q => h.run pins s σ H D I (k D σ H q)⟩
theorem PSs.of {X : Cx} {st : List Stmt} {t t' : TS} (h : PSs X st t) (k : ∀ D σ H, t' D σ H → t D σ H) : PSs X st t' := ⟨fun pins s σ H D I q => h.run pins s σ H D I (k D σ H q)⟩
section
variable {G : GX} {Ww : WX} {C : Calls} {X : Cx} {W : Wl} {φ : Fr} {σ : L2.St} {E : Ends}
theorem wpS_toS {α : Type} {m : Res α} {f : α → Store → SR} (fr : FRel G W φ σ) (h : wpS G Ww W E (m.toS φ f)) : wpR m (fun a st => wpS G Ww W E (f a st)) (Xf G Ww σ W) := by
  cases m with
  | none => exact h
  | some o => cases o with
    | ok a st => exact h
    | exc x st =>
      intro W' cls d a b c r
      exact (show ∀ W1 σ1 cls d, W1.st = st → Ext W W1 → SRel G W1 → FRel G W1 φ σ1 → XRel G W1 x cls d → Ww cls d σ1 W1.H from h) W' σ cls d a b c (fr.ext b) r
theorem wpS_toS2 {α : Type} {W2 : Wl} {m : Res α} {f : α → Store → SR} (x : Ext W W2) (fr : FRel G W2 φ σ) (h : wpS G Ww W E (m.toS φ f)) : wpR m (fun a st => wpS G Ww W E (f a st)) (Xf G Ww σ W2) := by
  cases m with
  | none => exact h
  | some o => cases o with
    | ok a st => exact h
    | exc x0 st =>
      intro W' cls d a b c r
      exact (show ∀ W1 σ1 cls d, W1.st = st → Ext W W1 → SRel G W1 → FRel G W1 φ σ1 → XRel G W1 x0 cls d → Ww cls d σ1 W1.H from h) W' σ cls d a (x.trans b) c (fr.ext b) r
/-- from a later world -/
theorem wpS_from {W1 : Wl} {r : SR} (x : Ext W W1) (h : wpS G Ww W E r) : wpS G Ww W1 E r := by
  cases r with
  | none => exact h
  | some o => cases o with
    | nx φ st => exact fun W2 σ a b c d => (show ∀ W σ, _ from h) W2 σ a (x.trans b) c d
    | ret d st => exact fun W2 v a b c r => (show ∀ W v, _ from h) W2 v a (x.trans b) c r
    | brk φ st => exact fun W2 σ a b c d => (show ∀ W σ, _ from h) W2 σ a (x.trans b) c d
    | cnt φ st => exact fun W2 σ a b c d => (show ∀ W σ, _ from h) W2 σ a (x.trans b) c d
    | exc x0 φ st => exact fun W2 σ cls d a b c f r => (show ∀ W σ cls d, _ from h) W2 σ cls d a (x.trans b) c f r
theorem wpS_seq {r : SR} {f : Fr → Store → SR} (h : wpS G Ww W E (r.seq f)) : wpS G Ww W { E with nx := fun σ H => ∃ W1 φ, W1.H = H ∧ FRel G W1 φ σ ∧ SRel G W1 ∧ wpS G Ww W1 E (f φ W1.st) } r := by
  cases r with
  | none => exact h
  | some o => cases o with
    | nx φ st =>
      intro W1 σ a b c d
      refine ⟨W1, φ, rfl, d, c, wpS_from b ?_⟩
      rw [a]
      exact h
    | _ => exact h
theorem ss_nil : PSs X [] (RSs G Ww C []) := by
  refine PSs.of pss_nil fun D σ H h => ?_
  obtain ⟨W, φ, rfl, f, s, h⟩ := h
  exact (show ∀ W1 σ1, W1.st = W.st → Ext W W1 → SRel G W1 → FRel G W1 φ σ1 → D.nx σ1 W1.H from h) W σ rfl (.refl W) s f
theorem ss_cons {st : Stmt} {rest : List Stmt} {s : Sm} {ss : List Sm} (h1 : PS X st (RS G Ww C s)) (h2 : PSs X rest (RSs G Ww C ss)) : PSs X (st :: rest) (RSs G Ww C (s :: ss)) := by
  refine PSs.of (pss_cons h1 h2) fun D σ H h => ?_
  obtain ⟨W, φ, rfl, f, s, h⟩ := h
  exact ⟨W, φ, rfl, f, s, wpS_seq h⟩
theorem pss_may {rest : List Stmt} {t : TS} (h : PSs X rest t) : PSs X rest (fun D σ H => t D σ H ∨ ∃ p u, H p = some u ∧ Mut (some u) ∧ ∀ od, t D σ (upd H p (.frz od u))) := by
  refine ⟨fun pins s σ H D I q => ?_⟩
  rcases q with q | ⟨p, u, hp, mu, q⟩
  · exact h.run pins s σ H D I q
  · obtain ⟨od, I2⟩ := I.lock hp mu
    exact h.run pins s σ _ D I2 (q od)
/-- nobody will change the thing of slot i any more -/
theorem ss_frz {rest : List Stmt} {i : Nat} {ss : List Sm} (h2 : PSs X rest (RSs G Ww C ss)) : PSs X rest (RSs G Ww C (.frz i :: ss)) := by
  refine PSs.of (pss_may h2) fun D σ H h => ?_
  obtain ⟨W, φ, rfl, f, s, h⟩ := h
  have h0 : wpS G Ww W D (SR.seq (match φ[i]? with
    | some (some (.ref n)) => match W.st.get n with
      | some (.lst xs) => some (SO.nx (φ.set i (some (.lst xs))) (W.st.put n none))
      | some (.dct ks vs) => some (SO.nx (φ.set i (some (.dct ks vs))) (W.st.put n none))
      | some (.obj c fn fv) => some (SO.nx (φ.set i (some (.obj c fn fv))) (W.st.put n none))
      | none => none
    | _ => some (SO.nx φ W.st)) fun φ st => evSs C ss φ st) := h
  cases e : φ[i]? with
  | none => rw [e] at h0; exact .inl ⟨W, φ, rfl, f, s, h0⟩
  | some o =>
    rw [e] at h0
    cases o with
    | none => exact .inl ⟨W, φ, rfl, f, s, h0⟩
    | some d =>
      cases d with
      | ref n =>
        dsimp only at h0
        cases g : W.st.get n with
        | none => rw [g] at h0; exact h0.elim
        | some ob =>
          rw [g] at h0
          cases ob with
          | lst xs =>
            obtain ⟨v, ev, rv⟩ := f.at_ i _ e
            cases rv with
            | ref _ hn =>
              exact .inl ⟨W.kill n, φ.set i (some (.lst xs)), rfl, (f.ext W.kill_ext).setD i ev (Wl.kill_lst s g), Wl.kill_s s, wpS_from W.kill_ext h0⟩
          | dct ks ds =>
            obtain ⟨v, ev, rv⟩ := f.at_ i _ e
            cases rv with
            | ref _ hn =>
              cases s.ob n _ g with
              | dct a hl hk r =>
                exact .inr ⟨_, _, a, trivial, fun od => ⟨W.lock n _, φ.set i (some (.dct ks ds)), rfl, (f.ext (W.lock_ext s g)).setD i ev (Wl.lock_dct s g hl hk r), Wl.lock_s s g, wpS_from (W.lock_ext s g) h0⟩⟩
          | obj c fn fv =>
            obtain ⟨v, ev, rv⟩ := f.at_ i _ e
            cases rv with
            | ref _ hn =>
              exact .inl ⟨W.kill n, φ.set i (some (.obj c fn fv)), rfl, (f.ext W.kill_ext).setD i ev (Wl.kill_obj s g), Wl.kill_s s, wpS_from W.kill_ext h0⟩
      | _ => exact .inl ⟨W, φ, rfl, f, s, h0⟩
theorem ss_wipe {rest : List Stmt} {ws : List Nat} {ss : List Sm} (h2 : PSs X rest (RSs G Ww C ss)) : PSs X rest (RSs G Ww C (.wipe ws :: ss)) := by
  refine PSs.of h2 fun D σ H h => ?_
  obtain ⟨W, φ, rfl, f, s, h⟩ := h
  refine ⟨W, wipeF φ ws, rfl, ⟨by rw [wipeF_length]; exact f.len, fun i d e => f.at_ i d (wipeF_get φ i e).1⟩, s, h⟩
theorem sm_pass {pos : Pos} : PS X (.Pass pos) (RS G Ww C .pass) := by
  refine PS.of ps_pass fun D σ H h => ?_
  obtain ⟨W, φ, rfl, f, s, h⟩ := h
  exact (show ∀ W1 σ1, W1.st = W.st → Ext W W1 → SRel G W1 → FRel G W1 φ σ1 → D.nx σ1 W1.H from h) W σ rfl (.refl W) s f
theorem sm_brk {pos : Pos} : PS X (.Break pos) (RS G Ww C .brk) := by
  refine PS.of ps_break fun D σ H h => ?_
  obtain ⟨W, φ, rfl, f, s, h⟩ := h
  exact (show ∀ W1 σ1, W1.st = W.st → Ext W W1 → SRel G W1 → FRel G W1 φ σ1 → D.bk σ1 W1.H from h) W σ rfl (.refl W) s f
theorem sm_cnt {pos : Pos} : PS X (.Continue pos) (RS G Ww C .cnt) := by
  refine PS.of ps_continue fun D σ H h => ?_
  obtain ⟨W, φ, rfl, f, s, h⟩ := h
  exact (show ∀ W1 σ1, W1.st = W.st → Ext W W1 → SRel G W1 → FRel G W1 φ σ1 → D.ct σ1 W1.H from h) W σ rfl (.refl W) s f
theorem sm_doc {x : Str} {j : Nat} {pos p2 : Pos} : PS X (.Expr (.Constant (.str x) j pos) p2) (RS G Ww C .pass) := by
  refine PS.of ps_doc fun D σ H h => ?_
  obtain ⟨W, φ, rfl, f, s, h⟩ := h
  exact (show ∀ W1 σ1, W1.st = W.st → Ext W W1 → SRel G W1 → FRel G W1 φ σ1 → D.nx σ1 W1.H from h) W σ rfl (.refl W) s f
theorem sm_ret0 {pos : Pos} : PS X (.Return none pos) (RS G Ww C .ret0) := by
  refine PS.of ps_retN fun D σ H h => ?_
  obtain ⟨W, φ, rfl, f, s, h⟩ := h
  exact (show ∀ W1 v, W1.st = W.st → Ext W W1 → SRel G W1 → Rel G W1 .non v → D.rt v W1.H from h) W _ rfl (.refl W) s .non
theorem sm_ret {e : Expr} {ex : Ex} {pos : Pos} (he : PE X e (RE G Ww C ex)) : PS X (.Return (some e) pos) (RS G Ww C (.ret ex)) := by
  refine PS.of (ps_ret he) fun D σ H h => ?_
  obtain ⟨W, φ, rfl, f, s, h⟩ := h
  exact RE.step f s (wpS_toS f h) fun d W1 v q x1 f1 s1 r1 => (show ∀ W2 v, W2.st = W1.st → Ext W W2 → SRel G W2 → Rel G W2 d v → D.rt v W2.H from q) W1 v rfl x1 s1 r1
theorem sm_ex {e : Expr} {ex : Ex} {pos : Pos} (he : PE X e (RE G Ww C ex)) (hs : swapsWith e none pos.line X.env = pure false) : PS X (.Expr e pos) (RS G Ww C (.ex ex)) := by
  refine PS.of (ps_expr he hs) fun D σ H h => ?_
  obtain ⟨W, φ, rfl, f, s, h⟩ := h
  exact RE.step f s (wpS_toS f h) fun d W1 v q x1 f1 s1 r1 => (show ∀ W2 σ2, W2.st = W1.st → Ext W W2 → SRel G W2 → FRel G W2 φ σ2 → D.nx σ2 W2.H from q) W1 σ rfl x1 s1 f1
theorem sm_ite {c : Expr} {a b : List Stmt} {ec : Ex} {ea eb : List Sm} {pos : Pos} (hc : PT X c (RT G Ww C ec)) (ha : PSs X a (RSs G Ww C ea)) (hb : PSs X b (RSs G Ww C eb)) : PS X (.If c a b pos) (RS G Ww C (.ite ec ea eb)) := by
  refine PS.of (ps_if hc ha hb) fun D σ H h => ?_
  obtain ⟨W, φ, rfl, f, s, h⟩ := h
  have h1 := wpS_toS f h
  refine RT.step (k := fun b st => wpS G Ww W D (if b = true then evSs C ea φ st else evSs C eb φ st)) f s ?_ fun b W1 q x1 f1 s1 => ?_
  · rw [wpR_bind]
    refine wpR_mono h1 (fun d st q => ?_) fun _ _ q => q
    cases e : truth st d with
    | none => rw [e] at q; exact q.elim
    | some b => rw [e] at q; cases b <;> exact q
  · cases b with
    | true => exact ⟨W1, φ, rfl, f1, s1, wpS_from x1 q⟩
    | false => exact ⟨W1, φ, rfl, f1, s1, wpS_from x1 q⟩
theorem asg_run {ex : Ex} {t : Tg} {D : Ends} {H : Hp} (h : RS G Ww C (.asg t ex) D σ H) : RE G Ww C ex σ H fun v H1 => RG G t v σ H1 D.nx := by
  obtain ⟨W, φ, rfl, f, s, h⟩ := h
  refine RE.step f s (wpS_toS f h) fun d W1 v q x1 f1 s1 r1 => ?_
  cases e : bindT W1.st t d φ with
  | none => rw [e] at q; exact q.elim
  | some φ' =>
    rw [e] at q
    exact ⟨W1, φ, d, φ', rfl, f1, s1, r1, e, fun σ' f' _ => (show ∀ W2 σ2, W2.st = W1.st → Ext W W2 → SRel G W2 → FRel G W2 φ' σ2 → D.nx σ2 W2.H from q) W1 σ' rfl x1 s1 f'⟩
theorem sm_set {i : Nat} {x : Str} {e : Expr} {ex : Ex} {p pos : Pos} (hN : X.N.Nodup) (hi : X.N[i]? = some x) (hx : Loc X.env.scope x) (hf : X.fn x = true ∨ X.env.scope.names.lookup x = some .local) (he : PE X e (RE G Ww C ex)) (hs : swapsWith e (some (.Name x p)) pos.line X.env = pure false) :
    PS X (.Assign [.Name x p] e pos) (RS G Ww C (.asg (.nm i) ex)) := by
  refine PS.of (ps_set hN hi hx he hs hf) fun D σ H h => ?_
  have h1 := asg_run h
  obtain ⟨W, φ, rfl, f, s, h1⟩ := h1
  refine RE.step f s h1 fun d W1 v q x1 f1 s1 r1 => ?_
  obtain ⟨W2, φ2, d2, φ', eH, f2, s2, r2, e2, q2⟩ := q W1 v rfl x1 s1 r1
  have e3 : some (φ2.set i (some d2)) = some φ' := e2
  cases e3
  have q3 := q2 _ (f2.set i r2) ⟨List.length_set .., fun j hj => List.getElem?_set_ne fun z => hj (by rw [← z]; exact List.mem_singleton.mpr rfl)⟩
  rw [eH] at q3
  exact q3
theorem sm_asg {tg e : Expr} {t : Tg} {ex : Ex} {pos : Pos} (he : PE X e (RE G Ww C ex)) (hg : PG X tg (RG G t)) (hs : swapsWithSole [tg] e pos.line X.env = pure false) (hw : swappedStores [tg] e X.env = pure none) (hn : noStar tg = true) :
    PS X (.Assign [tg] e pos) (RS G Ww C (.asg t ex)) :=
  PS.of (ps_asg he hg hs hw (by rw [astar hn] <;> rfl)) fun D σ H h => asg_run h
theorem sm_lc {m : Bool} {i : Nat} {y : Str} {py : Pos} {elt tg iter : Expr} {ifs : List Expr} {scope : Scope} {own : List (Str × Nat)} {pos spos : Pos} {t : Tg} {ei ee : Ex} {ec : Option Ex} (hK : X.K = G.K) (hc : X.calm = true) (hN : X.N.Nodup) (hy : X.N[i]? = some y) (hyl : X.env.scope.names.lookup y = some .local)
    (hsw : swapsWith (.ListComp elt [⟨tg, iter, ifs, 0⟩] scope pos) (some (.Name y py)) spos.line X.env = pure true) (hi : PI X tg iter (RI G Ww C ei)) (ok : BlkOk X.N X.env.scope scope own) (hown : own.map (·.2) = t.slots)
    (hg : ∀ (s : Shared) (H : Hp) (L : Addr) (cl : List (Str × Addr)) (fp : List Addr), PG (X.blk s H scope (compEnvC scope cl L X.env) fp) tg (RG G t))
    (ht : ∀ (s : Shared) (H : Hp) (L : Addr) (cl : List (Str × Addr)) (fp : List Addr), PTs (X.blk s H scope (compEnvC scope cl L X.env) fp) ifs (RC G WN C ec))
    (he : ∀ (s : Shared) (H : Hp) (L : Addr) (cl : List (Str × Addr)) (fp : List Addr), PE (X.blk s H scope (compEnvC scope cl L X.env) fp) elt (RE G WN C ee)) (hs : ∀ x, foldedSetIterable iter X.env x = pure x) :
    PS X (.Assign [.Name y py] (.ListComp elt [⟨tg, iter, ifs, 0⟩] scope pos) spos) (RS G Ww C (.asg (.nm i) (.comp m t ei ec ee))) := by
  refine PS.of (ps_setLc hc hN hy hyl hsw hi ok hg ht he hs) fun D σ H h => ?_
  refine se_comp (m := m) (pos := pos) hK hc hN hi ok hown hg ht he ?_
  have h1 := asg_run h
  obtain ⟨W, φ, rfl, f, s, h1⟩ := h1
  refine RE.step f s h1 fun d W1 v q x1 f1 s1 r1 => ?_
  obtain ⟨W2, φ2, d2, φ', eH, f2, s2, r2, e2, q2⟩ := q W1 v rfl x1 s1 r1
  have e3 : some (φ2.set i (some d2)) = some φ' := e2
  cases e3
  have q3 := q2 _ (f2.set i r2) ⟨List.length_set .., fun j hj => List.getElem?_set_ne fun z => hj (by rw [← z]; exact List.mem_singleton.mpr rfl)⟩
  rw [eH] at q3
  exact q3
theorem sm_par {i j : Nat} {x y : Str} {a b : Expr} {ea eb : Ex} {px py pt : Pos} {kt k2 : Nat} {pt2 pos : Pos} (hc : X.calm = true) (hN : X.N.Nodup) (hi : X.N[i]? = some x) (hj : X.N[j]? = some y) (hij : i ≠ j)
    (hx : X.env.scope.names.lookup x = some .local) (hy : X.env.scope.names.lookup y = some .local) (ha : PA X [a, b] (RA G Ww C [ea, eb]))
    (hw : swappedStores [.Tuple [.Name x px, .Name y py] kt pt] (.Tuple [a, b] k2 pt2) X.env = pure (some [x, y])) :
    PS X (.Assign [.Tuple [.Name x px, .Name y py] kt pt] (.Tuple [a, b] k2 pt2) pos) (RS G Ww C (.par [i, j] [ea, eb])) := by
  refine PS.of (ps_par hc hN hi hj hij hx hy ha hw) fun D σ H h => ?_
  obtain ⟨W, φ, rfl, f, s, h⟩ := h
  refine RA.step f s (wpS_toS f h) fun ds W1 vs q x1 f1 s1 r1 => ?_
  cases r1 with
  | nil => exact (show False from q).elim
  | cons ra r1 =>
    cases r1 with
    | nil => exact (show False from q).elim
    | cons rb r1 =>
      cases r1 with
      | nil =>
        rename_i d1 v1 d2 v2
        exact ⟨v1, v2, rfl, (show ∀ W2 σ2, W2.st = W1.st → Ext W W2 → SRel G W2 → FRel G W2 ((φ.set i (some d1)).set j (some d2)) σ2 → D.nx σ2 W2.H from q) W1 _ rfl x1 s1 ((f1.set i ra).set j rb)⟩
      | cons _ _ => exact (show False from q).elim
/-- a store by values -/
def rPut (G : GX) : V → V → V → Hp → (Hp → Prop) → Prop := fun o i v H Q => ∃ W od id d st', W.H = H ∧ SRel G W ∧ Rel G W od o ∧ Rel G W id i ∧ Rel G W d v ∧ putD W.st od id d = some st' ∧ ∀ W', W'.st = st' → Ext W W' → SRel G W' → Q W'.H
theorem set_put (hu : X.A.units + 65 < cLine) : PSet X (rPut G) := by
  intro pins s σ H o i v ov iv u Q I ro ri rv h
  obtain ⟨W, od, id, d, st', rfl, s3, r2, r3, r1, e, q5⟩ := h
  cases r2 with
  | ref n hn =>
    cases r3 with
    | int k =>
      have e' : (match W.st.get n with
        | some (.lst xs) => match ixN xs.length k with
          | some j => some (W.st.put n (some (.lst (xs.set j d))))
          | none => none
        | _ => none) = some st' := e
      cases g : W.st.get n with
      | none => rw [g] at e'; cases e'
      | some ob =>
        cases ob with
        | lst xs =>
          rw [g] at e'
          dsimp only at e'
          cases hj : ixN xs.length k with
          | none => rw [hj] at e'; cases e'
          | some j =>
            rw [hj] at e'
            have e3 := Option.some.inj e'
            cases s3.ob n _ g with
            | lst hv rv0 =>
              rename_i vs
              have hl := rv0.length
              refine set_list pins s σ W.H _ _ v ov iv u Q I ro ri rv ⟨W.al n, vs, k, j, rfl, rfl, hv, by rw [← hl]; exact hj, ?_⟩
              exact q5 (W.turn n (xs.set j d) (vs.set j v)) e3 (W.turn_ext s3 g) (Wl.turn_s s3 g (rv0.set r1 j))
        | dct _ _ => rw [g] at e'; cases e'
        | obj _ _ _ => rw [g] at e'; cases e'
    | str x hx =>
      have e' : (match W.st.get n with
        | some (.dct ks vs) => if ks.length < 4096 then some (W.st.put n (some (.dct (putN ks x) (putV ks vs x d)))) else none
        | _ => none) = some st' := e
      cases g : W.st.get n with
      | none => rw [g] at e'; cases e'
      | some ob =>
        cases ob with
        | dct ks ds =>
          rw [g] at e'
          have e2 : (if ks.length < 4096 then some (W.st.put n (some (.dct (putN ks x) (putV ks ds x d)))) else none) = some st' := e'
          by_cases hz : ks.length < 4096
          · rw [if_pos hz] at e2
            have e3 := Option.some.inj e2
            cases s3.ob n _ g with
            | dct a l hk r =>
              rename_i vs
              obtain ⟨us, ru, ek, _⟩ := putV_rel (x := x) l r r1
              have hlen : (zipK ks vs).length < sizeLine := by rw [zipK_len (l.trans r.length)]; exact Nat.lt_of_lt_of_le hz (by decide)
              refine set_dict (by omega) pins s σ W.H _ _ v ov iv u Q I ro ri rv ⟨W.al n, _, rfl, DPut.k (k := Sum.inr x) a hlen, ?_⟩
              rw [← ek]
              have ext := W.turnO_ext (ob := .dct (putN ks x) (putV ks ds x d)) (ho := .dK (zipK (putN ks x) us)) s3 g
              refine q5 (W.turnO n (.dct (putN ks x) (putV ks ds x d)) (.dK (zipK (putN ks x) us))) e3 ext (Wl.turnO_s s3 g (.dct upd_same (putV_len l) (fun k0 hk0 => ?_) (ru.ext ext)))
              unfold putN at hk0
              by_cases hx2 : x ∈ ks
              · rw [if_pos hx2] at hk0; exact hk k0 hk0
              · rw [if_neg hx2, List.mem_append, List.mem_singleton] at hk0
                rcases hk0 with hk0 | rfl
                · exact hk k0 hk0
                · exact hx
          · rw [if_neg hz] at e2; cases e2
        | lst _ => rw [g] at e'; cases e'
        | obj _ _ _ => rw [g] at e'; cases e'
    | _ => cases e
  | _ => cases r3 <;> cases e
theorem sm_put {o i e : Expr} {eo ei ee : Ex} {p pos : Pos} (hu : X.A.units + 65 < cLine) (ho : PE X o (RE G Ww C eo)) (hi : PE X i (RE G Ww C ei)) (he : PE X e (RE G Ww C ee)) (hp : ∀ v, assign (.Subscript o i p) X.env v = (do
      let ov ← holding [v] (eval o X.env)
      let iv ← holding [v, ov] (eval i X.env)
      standAt p
      holding [v, ov, iv] (setItem ov iv v)
      release [v, ov, iv] [])) (hs : swapsWithSole [.Subscript o i p] e pos.line X.env = pure false) (hw : swappedStores [.Subscript o i p] e X.env = pure none) :
    PS X (.Assign [.Subscript o i p] e pos) (RS G Ww C (.put eo ei ee)) := by
  refine PS.of (ps_asg he (pg_sub ho hi (set_put (G := G) hu) hp) hs hw rfl) fun D σ H h => ?_
  obtain ⟨W, φ, rfl, f, s, h⟩ := h
  refine RE.step f s (wpS_toS f h) fun d W1 v q x1 f1 s1 r1 => ?_
  refine RE.step f1 s1 (Xf.from x1 (wpS_toS f q)) fun od W2 ov q2 x2 f2 s2 r2 => ?_
  refine RE.step f2 s2 (Xf.from (x1.trans x2) (wpS_toS f q2)) fun id W3 iv q3 x3 f3 s3 r3 => ?_
  have q4 : wpS G Ww W D (match putD W3.st od id d with
    | some st' => some (SO.nx φ st')
    | none => none) := q3
  cases e : putD W3.st od id d with
  | none => rw [e] at q4; exact q4.elim
  | some st' =>
    rw [e] at q4
    have q5 : ∀ W4 σ4, W4.st = st' → Ext W W4 → SRel G W4 → FRel G W4 φ σ4 → D.nx σ4 W4.H := q4
    exact ⟨W3, od, id, d, st', rfl, s3, r2.ext x3, r3, (r1.ext x2).ext x3, e, fun W' a x s' => q5 W' σ a (((x1.trans x2).trans x3).trans x) s' (f3.ext x)⟩
theorem sm_while {c : Expr} {body : List Stmt} {ec : Ex} {eb : List Sm} {pos : Pos} (hp : PassesOwn (model X.prog X.w) X.A X.env X.xe) (hc : PT X c (RT G Ww C ec)) (hb : PSs X body (RSs G Ww C eb)) :
    PS X (.While c body [] pos) (RS G Ww C (.while ec eb)) := by
  refine PS.of (ps_while hp hc hb) fun E σ H h => ?_
  obtain ⟨W, φ, rfl, f, s, h⟩ := h
  have h' : wpS G Ww W E (whileN (fun φ st => (evE C ec φ st).bind fun d st => lift (truth st d) st) (fun φ st => evSs C eb φ st) 1000 φ W.st) := h
  refine ⟨fun n σ H => ∃ W2 φ2, W2.H = H ∧ Ext W W2 ∧ SRel G W2 ∧ FRel G W2 φ2 σ ∧ wpS G Ww W E (whileN (fun φ st => (evE C ec φ st).bind fun d st => lift (truth st d) st) (fun φ st => evSs C eb φ st) n φ2 W2.st), ⟨1000, W, φ, rfl, .refl _, s, f, h'⟩, ?_⟩
  rintro n σ2 H ⟨W2, φ2, rfl, x2, s2, f2, q2⟩
  cases n with
  | zero => exact (show False from q2).elim
  | succ n =>
    have q3 : wpS G Ww W E (((evE C ec φ2 W2.st).bind fun d st => lift (truth st d) st).toS φ2 fun b st => if b = true then (match evSs C eb φ2 st with
      | some (.nx φ' st') => whileN (fun φ st => (evE C ec φ st).bind fun d st => lift (truth st d) st) (fun φ st => evSs C eb φ st) n φ' st'
      | some (.cnt φ' st') => whileN (fun φ st => (evE C ec φ st).bind fun d st => lift (truth st d) st) (fun φ st => evSs C eb φ st) n φ' st'
      | some (.brk φ' st') => some (.nx φ' st')
      | r => r) else some (.nx φ2 st)) := q2
    refine RT.step f2 s2 (wpS_toS2 x2 f2 q3) fun b W3 q x3 f3 s3 => ?_
    have x03 := x2.trans x3
    cases b with
    | false =>
      refine (if_neg (by decide) : (if false = true then _ else E.nx σ2 W3.H) = _).mpr ?_
      exact (show ∀ W5 σ5, W5.st = W3.st → Ext W W5 → SRel G W5 → FRel G W5 φ2 σ5 → E.nx σ5 W5.H from q) W3 σ2 rfl x03 s3 f3
    | true =>
      refine (if_pos rfl : (if true = true then _ else E.nx σ2 W3.H) = _).mpr ?_
      refine ⟨fun σ' H' => ∃ W4 φ4, W4.H = H' ∧ Ext W W4 ∧ SRel G W4 ∧ FRel G W4 φ4 σ' ∧ wpS G Ww W E (whileN (fun φ st => (evE C ec φ st).bind fun d st => lift (truth st d) st) (fun φ st => evSs C eb φ st) n φ4 W4.st), fun σ' H' z => ⟨n, Nat.lt_succ_self _, z⟩, W3, φ2, rfl, f3, s3, ?_⟩
      have q4 : wpS G Ww W E (match evSs C eb φ2 W3.st with
        | some (.nx φ' st') => whileN (fun φ st => (evE C ec φ st).bind fun d st => lift (truth st d) st) (fun φ st => evSs C eb φ st) n φ' st'
        | some (.cnt φ' st') => whileN (fun φ st => (evE C ec φ st).bind fun d st => lift (truth st d) st) (fun φ st => evSs C eb φ st) n φ' st'
        | some (.brk φ' st') => some (.nx φ' st')
        | r => r) := q
      cases er : evSs C eb φ2 W3.st with
      | none => rw [er] at q4; exact q4
      | some o =>
        rw [er] at q4
        cases o with
        | nx φ4 st4 => exact fun W4 σ4 a4 x4 s4 f4 => ⟨W4, φ4, rfl, x03.trans x4, s4, f4, by rw [a4]; exact q4⟩
        | cnt φ4 st4 => exact fun W4 σ4 a4 x4 s4 f4 => ⟨W4, φ4, rfl, x03.trans x4, s4, f4, by rw [a4]; exact q4⟩
        | brk φ4 st4 => exact fun W4 σ4 a4 x4 s4 f4 => (show ∀ W5 σ5, W5.st = st4 → Ext W W5 → SRel G W5 → FRel G W5 φ4 σ5 → E.nx σ5 W5.H from q4) W4 σ4 a4 (x03.trans x4) s4 f4
        | ret d4 st4 => exact wpS_from x03 (r := some (.ret d4 st4)) (E := E) q4
        | exc x4 φ4 st4 => exact wpS_from x03 (r := some (.exc x4 φ4 st4)) (E := E) q4
end
end OM
namespace OM
open PySem PySem.Spec L2
section
variable {G : GX} {Ww : WX} {C : Calls} {X : Cx}
theorem st_cmp {a b : Expr} {ea eb : Ex} {o : CO} {pos : Pos} (hK : X.K = G.K) (hu : X.A.units + 65 < cLine) (hm : behindInMarks o.op b = false) (ha : PE X a (RE G Ww C ea)) (hb : PE X b (RE G Ww C eb)) : PT X (.Compare a [o.op] [b] pos) (RT G Ww C (.cmp o ea eb)) := by
  refine PT.of (pt_cmpR (op_cmp hK hu o) ha hb hm) fun σ H Q h => ?_
  obtain ⟨W, φ, rfl, f, s, h⟩ := h
  have h1 := wpR_bind.mp h
  refine RE.step f s (wpR_bind.mp h1) fun x W1 v1 q1 x1 f1 s1 r1 => ?_
  refine RE.step f1 s1 (Xf.from x1 (wpR_bind.mp q1)) fun y W2 v2 q2 x2 f2 s2 r2 => ?_
  obtain ⟨d, e, l⟩ := wpR_lift q2
  obtain ⟨k, rfl⟩ := cmpop_bl e
  refine ⟨W2, x, y, _, rfl, s2, r1.ext x2, r2, e, fun W3 v3 e3 x3 s3 r3 => ?_⟩
  cases r3 with
  | bl _ =>
    have l' : ∀ W', W'.st = W2.st → Ext W W' → SRel G W' → Q k W'.H := l
    exact ⟨k, rfl, l' W3 e3 ((x1.trans x2).trans x3) s3⟩
theorem st_chain {a b c : Expr} {ea eb ec : Ex} {o p : CO} {pos : Pos} (hK : X.K = G.K) (hu : X.A.units + 65 < cLine) (hm1 : behindInMarks o.op b = false) (hm2 : behindInMarks p.op c = false) (ha : PE X a (RE G Ww C ea)) (hb : PE X b (RE G Ww C eb)) (hc : PE X c (RE G Ww C ec))
    : PT X (.Compare a [o.op, p.op] [b, c] pos) (RT G Ww C (.chain o p ea eb ec)) := by
  refine PT.of (pt_chain (op_cmp hK hu o) (op_cmp hK hu p) ha hb hc hm2) fun σ H Q h => ?_
  obtain ⟨W, φ, rfl, f, s, h⟩ := h
  have h1 := wpR_bind.mp h
  refine RE.step f s (wpR_bind.mp h1) fun x W1 v1 q1 x1 f1 s1 r1 => ?_
  refine RE.step f1 s1 (Xf.from x1 (wpR_bind.mp q1)) fun y W2 v2 q2 x2 f2 s2 r2 => ?_
  obtain ⟨d, e, l⟩ := wpR_lift (wpR_bind.mp q2)
  obtain ⟨k, rfl⟩ := cmpop_bl e
  refine ⟨W2, x, y, _, rfl, s2, r1.ext x2, r2, e, fun W3 v3 e3 x3 s3 r3 => ?_⟩
  cases r3 with
  | bl _ =>
    refine ⟨k, rfl, ?_⟩
    cases k with
    | true =>
      have l' : wpR ((evE C ec φ W2.st).bind fun z st => lift (cmpop st p y z) st) (fun d st' => wpR (lift (truth st' d) st') (fun b st' => ∀ W', W'.st = st' → Ext W W' → SRel G W' → Q b W'.H) (Xf G Ww σ W)) (Xf G Ww σ W) := l
      rw [← e3] at l'
      refine RE.step (f2.ext x3) s3 (Xf.from ((x1.trans x2).trans x3) (wpR_bind.mp l')) fun z W4 v4 q4 x4 f4 s4 r4 => ?_
      obtain ⟨d, e4, l4⟩ := wpR_lift q4
      obtain ⟨k4, rfl⟩ := cmpop_bl e4
      refine ⟨W4, y, z, _, rfl, s4, (r2.ext x3).ext x4, r4, e4, fun W5 v5 e5 x5 s5 r5 => ?_⟩
      cases r5 with
      | bl _ => exact ⟨k4, rfl, (show ∀ W', W'.st = W4.st → Ext W W' → SRel G W' → Q k4 W'.H from l4) W5 e5 ((((x1.trans x2).trans x3).trans x4).trans x5) s5⟩
    | false =>
      exact ⟨false, rfl, (show ∀ W', W'.st = W2.st → Ext W W' → SRel G W' → Q false W'.H from l) W3 e3 ((x1.trans x2).trans x3) s3⟩
theorem pt_ifExp {c a b : Expr} {tc ta tb : TT} {pos : Pos} (hc : PT X c tc) (ha : PT X a ta) (hb : PT X b tb) : PT X (.IfExp c a b pos) (fun σ H Q => tc σ H fun k H1 => if k = true then ta σ H1 Q else tb σ H1 Q) := by
  refine ⟨fun pins s σ H Q I h => ?_⟩
  refine PyProof.Rows.isTrue_IfExp (thn (hc.run pins s σ H _ I h) fun d s1 ⟨H1, I1, q1⟩ => ?_)
  cases d with
  | true => exact ha.run pins s1 σ H1 Q I1 q1
  | false => exact hb.run pins s1 σ H1 Q I1 q1
theorem st_iteT {c a b : Expr} {ec ea eb : Ex} {pos : Pos} (hc : PT X c (RT G Ww C ec)) (ha : PT X a (RT G Ww C ea)) (hb : PT X b (RT G Ww C eb)) : PT X (.IfExp c a b pos) (RT G Ww C (.ite ec ea eb)) := by
  refine PT.of (pt_ifExp hc ha hb) fun σ H Q h => ?_
  obtain ⟨W, φ, rfl, f, s, h⟩ := h
  refine RT.step (k := fun b st' => wpR (((if b = true then evE C ea φ st' else evE C eb φ st')).bind fun d st => lift (truth st d) st) (fun b st' => ∀ W', W'.st = st' → Ext W W' → SRel G W' → Q b W'.H) (Xf G Ww σ W)) f s ?_ fun b W' q x f' s' => ?_
  · rw [wpR_bind]
    refine wpR_mono (wpR_bind.mp (wpR_bind.mp h)) (fun d st q => ?_) fun _ _ q => q
    cases e : truth st d with
    | none => rw [e] at q; exact q.elim
    | some b =>
      rw [e] at q
      cases b with
      | true => exact wpR_bind.mpr q
      | false => exact wpR_bind.mpr q
  · cases b with
    | true => exact RT.of_run x f' s' q
    | false => exact RT.of_run x f' s' q
end
def plainT : Expr → Bool
  | .UnaryOp .Not _ _ => false
  | .BoolOp .. => false
  | .IfExp .. => false
  | .Compare .. => false
  | _ => true
theorem plainT_ok {e : Expr} (h : plainT e = true) (env : Env) : ∀ whole, isTrue e env whole = (do let v ← whole; standAt e.pos; holding [v] (truthy v)) := by
  cases e with
  | UnaryOp op a p => cases op <;> first | (intro _; rfl) | cases h
  | BoolOp => cases h
  | IfExp => cases h
  | Compare => cases h
  | _ => intro _; rfl
def noSet : Expr → Bool
  | .Set .. => false
  | _ => true
theorem noSet_ok {e : Expr} (h : noSet e = true) (env : Env) : ∀ x, foldedSetIterable e env x = pure x := by
  cases e with
  | Set => cases h
  | _ => intro _; rfl
theorem noSet_marks {e : Expr} (h : noSet e = true) (op : CmpOp) : behindInMarks op e = false := by
  cases e with
  | Set => cases h
  | _ => rfl
def noSlice : Expr → Bool
  | .Slice .. => false
  | _ => true
theorem noSlice_ix {e : Expr} (h : noSlice e = true) : PlainIx e := by
  cases e with
  | Slice => cases h
  | _ => intro _ _; rfl
theorem noSlice_asg {o i : Expr} {env : Env} {p : Pos} (h : noSlice i = true) : ∀ v, assign (.Subscript o i p) env v = (do
      let ov ← holding [v] (eval o env)
      let iv ← holding [v, ov] (eval i env)
      standAt p
      holding [v, ov, iv] (setItem ov iv v)
      release [v, ov, iv] []) := by
  cases i with
  | Slice => cases h
  | _ => intro _; rfl
def noComp : Expr → Bool
  | .ListComp .. => false
  | .SetComp .. => false
  | .DictComp .. => false
  | _ => true
theorem noComp_sw {e : Expr} (h : noComp e = true) (t : Option Expr) (l : Nat) (env : Env) : swapsWith e t l env = pure false := by
  cases e with
  | ListComp => cases h
  | SetComp => cases h
  | DictComp => cases h
  | _ => rfl
def noTup : Expr → Bool
  | .Tuple .. => false
  | _ => true
theorem noTup_sw {e : Expr} (h : noTup e = true) (ts : List Expr) (env : Env) : swappedStores ts e env = pure none := by
  cases e with
  | Tuple => cases h
  | _ =>
    cases ts with
    | nil => rfl
    | cons t ts => cases ts <;> (cases t <;> rfl)
theorem sub_sw (e o i : Expr) (p : Pos) (env : Env) : swappedStores [.Subscript o i p] e env = pure none := by cases e <;> rfl
def noCall0 : Expr → Bool
  | .Call (.Name _ _) [] [] _ => false
  | _ => true
theorem noCall0_base {o : Expr} (h : noCall0 o = true) (m : Str) (env : Env) (w : Sem Value) : attributeBase o m env w = w := by
  cases o with
  | Call f as ks p =>
    cases f with
    | Name x q =>
      cases as with
      | nil =>
        cases ks with
        | nil => cases h
        | cons => rfl
      | cons => rfl
    | _ => rfl
  | _ => rfl
/-- y = [..] on one line -/
def swB (sc : Scope) (y : Str) (py : Pos) : Expr → Bool
  | .ListComp _ _ s p | .SetComp _ _ s p | .DictComp _ _ _ s p => (match sc.names.lookup y with | some .local => true | _ => false) && (py.line == p.line) && !(s.names.any fun (n, k) => n == y && (k == .local || k == .cell))
  | _ => false
theorem swB_ok {env : Env} (hk : env.scope.kind = .function) (y : Str) (py : Pos) (l : Nat) (e : Expr) : swapsWith e (some (.Name y py)) l env = pure (swB env.scope y py e) := by
  have hb : env.blockKind = .function := by unfold Env.blockKind; rw [hk]; rfl
  have ky : (env.kindOf y == some .local) = (match env.scope.names.lookup y with | some .local => true | _ => false) := by
    unfold Env.kindOf
    cases env.scope.names.lookup y with
    | none => rfl
    | some k => cases k <;> rfl
  cases e with
  | ListComp a b s p =>
    unfold swapsWith swB
    simp only [hb, Expr.pos, ky]
    rfl
  | SetComp a b s p =>
    unfold swapsWith swB
    simp only [hb, Expr.pos, ky]
    rfl
  | DictComp a b c s p =>
    unfold swapsWith swB
    simp only [hb, Expr.pos, ky]
    rfl
  | _ => rfl
/-- an assignment that is no exchange of names -/
theorem sole_noComp {t e : Expr} (h : noComp e = true) (l : Nat) (env : Env) : swapsWithSole [t] e l env = pure false := noComp_sw h _ l env
theorem few_ok {es : List Expr} {env : Env} {pos : Pos} (h : es.all noStar = true) (hl : es.length < 30) : ((backTo pos (starEach es env)).all (fun x => !x.1) && (backToKw pos (keywordEach [] env)).all (fun x => x.1.isSome)
      && decide (es.length + ([] : List Keyword).length + (if ([] : List Keyword).isEmpty then 0 else 1) < 30)) = true := by
  have h1 : (backTo pos (starEach es env)).all (fun x => !x.1) = true := by
    have q := (back_any (pos := pos)).trans (star_any (env := env) h)
    rw [List.all_eq_not_any_not]
    simpa using q
  rw [h1]
  show (true && decide (es.length + 0 + 0 < 30)) = true
  rw [Bool.true_and, decide_eq_true_eq]
  exact hl
theorem ht_of {o : Expr} {m : Str} {apos pos : Pos} {es : List Expr} {kws : List Keyword} {env : Env} (h1 : noCall0 o = true) (h2 : methodCallForm (es.length + kws.length) (backTo pos (starEach es env)) (backToKw pos (keywordEach kws env)) = true) (h3 : (apos.endLine == pos.line) = true) :
    eval (.Call (.Attribute o m apos) es kws pos) env = (do
      let ov ← eval o env
      standAt apos.atName
      let (f, first) ← holding [ov] (getMethod ov m (do return (← importBound o env).getD true))
      callWith pos f first (backTo pos (starEach es env)) (backToKw pos (keywordEach kws env))) := by
  show (do
    let ov ← attributeBase o m env (eval o env)
    standAt apos.atName
    methodCall o m apos pos env ov (es.length + kws.length) (backTo pos (starEach es env)) (backToKw pos (keywordEach kws env))) = _
  rw [noCall0_base h1]
  unfold methodCall calleeOf methodCallPos
  rw [h2, h3]
  rfl
theorem form_ok {es : List Expr} {kws : List Keyword} {env : Env} {pos : Pos} (h : es.all noStar = true) (hk : kws = [] ∨ ∃ k e p, kws = [⟨some k, e, p⟩]) (hl : es.length < 28) : methodCallForm (es.length + kws.length) (backTo pos (starEach es env)) (backToKw pos (keywordEach kws env)) = true := by
  have h1 : (backTo pos (starEach es env)).all (fun x => !x.1) = true := by
    have q := (back_any (pos := pos)).trans (star_any (env := env) h)
    rw [List.all_eq_not_any_not]
    simpa using q
  unfold methodCallForm
  rw [h1]
  rcases hk with rfl | ⟨k, e, p, rfl⟩
  · show (true && true && decide (es.length + 0 + 0 < 30)) = true
    simp; omega
  · show (true && true && decide (es.length + 1 + 1 < 30)) = true
    simp; omega
end OM
namespace OM
open PySem PySem.Spec L2 RZ
section
variable {G : GX} {Ww : WX} {C : Calls} {X : Cx} {W : Wl} {φ : Fr} {σ : L2.St} {Q : VK}
theorem se_fld {cs : List Str} {o : Expr} {eo : Ex} {f : Str} {pos : Pos} (hK : X.K = G.K) (ho : PE X o (RE G Ww C eo)) (hc : ∀ c ∈ cs, Cls X.K (G.cl c) ∧ NoAttr X.K (G.cl c) f) (hb : attributeBase o f X.env (eval o X.env) = eval o X.env) : PE X (.Attribute o f pos) (RE G Ww C (.fld cs eo f)) := by
  refine PE.of (pe_fld ho hb) fun σ H Q h => ?_
  obtain ⟨W, φ, rfl, fr, s, h⟩ := h
  refine RE.step fr s (wpR_bind.mp h) fun d W1 v q x1 f1 s1 r1 => ?_
  cases e : objOf W1.st d with
  | none => rw [e] at q; exact q.elim
  | some p =>
    obtain ⟨c, fn, fv⟩ := p
    rw [e] at q
    have q' : wpR (if c ∈ cs then lift (lookK fn fv f) W1.st else none) (fun d st' => Lf G W d st' Q) (Xf G Ww σ W) := q
    by_cases hm : c ∈ cs
    · rw [if_pos hm] at q'
      obtain ⟨d2, e2, l⟩ := wpR_lift q'
      obtain ⟨a, dx, vs, rfl, hi, hl, r⟩ := obj_at s1 r1 e
      obtain ⟨w, h1, _, r2⟩ := lookK_zip r e2
      exact ⟨a, G.cl c, dx, _, w, rfl, hi, (hc c hm).1, (hc c hm).2, h1, l W1 w rfl x1 s1 r2⟩
    · rw [if_neg hm] at q'; exact q'.elim
theorem sm_setf {cs : List Str} {o e : Expr} {eo ee : Ex} {f : Str} {p' pos : Pos} (ho : PE X o (RE G Ww C eo)) (he : PE X e (RE G Ww C ee)) (hc : ∀ c ∈ cs, Cls X.K (G.cl c) ∧ NoAttr X.K (G.cl c) f) (hs : swapsWith e (some (.Attribute o f p')) pos.line X.env = pure false) : PS X (.Assign [.Attribute o f p'] e pos) (RS G Ww C (.setf cs eo f ee)) := by
  refine PS.of (ps_fld ho he hs) fun D σ H h => ?_
  obtain ⟨W, φ, rfl, fr, s, h⟩ := h
  refine RE.step fr s (wpS_toS fr h) fun d W1 v q x1 f1 s1 r1 => ?_
  refine RE.step f1 s1 (Xf.from x1 (wpS_toS fr q)) fun od W2 ov q2 x2 f2 s2 r2 => ?_
  have q3 : wpS G Ww W D (match setfD W2.st cs od f d with
    | some st' => some (SO.nx φ st')
    | none => none) := q2
  cases e1 : setfD W2.st cs od f d with
  | none => rw [e1] at q3; exact q3.elim
  | some st' =>
    rw [e1] at q3
    have q5 : ∀ W4 σ4, W4.st = st' → Ext W W4 → SRel G W4 → FRel G W4 φ σ4 → D.nx σ4 W4.H := q3
    cases r2 with
    | ref n hn =>
      have e2 : (match W2.st.get n with
        | some (.obj c fn fv) => if c ∈ cs ∧ fn.length < 900 then some (W2.st.put n (some (.obj c (putN fn f) (putV fn fv f d)))) else none
        | _ => none) = some st' := e1
      cases g : W2.st.get n with
      | none => rw [g] at e2; cases e2
      | some ob =>
        rw [g] at e2
        cases ob with
        | obj c fn fv =>
          have e3 : (if c ∈ cs ∧ fn.length < 900 then some (W2.st.put n (some (.obj c (putN fn f) (putV fn fv f d)))) else none) = some st' := e2
          by_cases hm : c ∈ cs ∧ fn.length < 900
          · rw [if_pos hm] at e3
            have e4 := Option.some.inj e3
            cases s2.ob n _ g with
            | obj a nd l r =>
              rename_i dx vs
              obtain ⟨us, ru, _, eu⟩ := putV_rel (x := f) l r (r1.ext x2)
              have hl : (fn.zip vs).length < 1000 := by rw [List.length_zip]; have := hm.2; omega
              refine ⟨_, G.cl c, dx, _, rfl, a, (hc c hm.1).1, (hc c hm.1).2, hl, ?_⟩
              rw [← eu nd]
              have ext := W2.turnO_ext (ob := .obj c (putN fn f) (putV fn fv f d)) (ho := .ins (G.cl c) dx ((putN fn f).zip us)) s2 g
              exact q5 (W2.turnO n (.obj c (putN fn f) (putV fn fv f d)) (.ins (G.cl c) dx ((putN fn f).zip us))) σ e4 ((x1.trans x2).trans ext) (Wl.turnO_s s2 g (.obj upd_same (putN_nodup nd) (putV_len l) (ru.ext ext))) (f2.ext ext)
          · rw [if_neg hm] at e3; cases e3
        | lst _ => cases e2
        | dct _ _ => cases e2
    | _ => cases e1
theorem se_dnew {pos : Pos} : PE X (.Dict [] [] pos) (RE G Ww C .dnew) := by
  refine PE.of pe_dnewK fun σ H Q h => ?_
  obtain ⟨W, φ, rfl, fr, s, h⟩ := h
  intro p hp
  have l : Lf G W (.ref W.st.next) (W.st.new (.dct [] [])) Q := h
  have ext := W.bornO_ext (ob := .dct [] []) (ho := .dK []) s hp
  exact l (W.bornO p (.dct [] []) (.dK [])) (.ref p) rfl ext (Wl.bornO_s s hp (.dct (vs := []) upd_same rfl (fun k hk => by cases hk) .nil)) Wl.bornO_ref
theorem isNon_v {d : D} {v : V} {b : Bool} (r : Rel G W d v) (h : isNon d = some b) : decide (v = V.non) = b := by
  cases r <;> first | (cases h; done) | (cases h; rfl) | (cases h; decide)
theorem se_isnone {neg : Bool} {a b : Expr} {ea : Ex} {pos : Pos} (ha : PE X a (RE G Ww C ea)) (hb : PE X b (tC .non)) (hm : behindInMarks (if neg then CmpOp.IsNot else CmpOp.Is) b = false) : PE X (.Compare a [if neg then CmpOp.IsNot else CmpOp.Is] [b] pos) (RE G Ww C (.isnone neg ea)) ∧ PT X (.Compare a [if neg then CmpOp.IsNot else CmpOp.Is] [b] pos) (RT G Ww C (.isnone neg ea)) := by
  have key : ∀ {σ : L2.St} {Q : VK} {W : Wl} {φ : Fr}, FRel G W φ σ → SRel G W → ∀ {k : D → Store → Prop}, wpR (evE C (.isnone neg ea) φ W.st) k (Xf G Ww σ W) → (∀ b W1, k (.bl b) W1.st → Ext W W1 → FRel G W1 φ σ → SRel G W1 → Q (.bl b) W1.H) → RE G Ww C ea σ W.H fun x H1 => tC .non σ H1 fun y H2 => y = .non ∧ Q (.bl (if neg then !decide (x = .non) else decide (x = .non))) H2 := fun {σ Q W φ} fr s {k} h hq => by
    refine RE.step fr s (wpR_bind.mp h) fun d W1 v q x1 f1 s1 r1 => ?_
    obtain ⟨d2, e, l⟩ := wpR_lift q
    cases e1 : isNon d with
    | none => rw [e1] at e; cases e
    | some b0 =>
      rw [e1] at e
      cases e
      have z := isNon_v r1 e1
      refine ⟨rfl, ?_⟩
      have e2 : (if neg then !decide (v = V.non) else decide (v = V.non)) = (b0 != neg) := by rw [z]; cases neg <;> cases b0 <;> rfl
      rw [e2]
      exact hq _ W1 l x1 f1 s1
  cases neg with
  | false =>
    refine ⟨PE.of (pe_cmpR op_isN ha hb hm) fun σ H Q h => ?_, PT.of (pt_cmpR op_isN ha hb hm) fun σ H Q h => ?_⟩
    · obtain ⟨W, φ, rfl, fr, s, h⟩ := h
      exact key fr s h fun b W1 l x1 f1 s1 => l W1 (.bl b) rfl x1 s1 (.bl b)
    · obtain ⟨W, φ, rfl, fr, s, h⟩ := h
      refine key (Q := fun v H => ∃ b, v = .bl b ∧ Q b H) fr s (wpR_bind.mp h) fun b W1 l x1 f1 s1 => ⟨b, rfl, ?_⟩
      exact (show ∀ W', W'.st = W1.st → Ext W W' → SRel G W' → Q b W'.H from l) W1 rfl x1 s1
  | true =>
    refine ⟨PE.of (pe_cmpR op_notN ha hb hm) fun σ H Q h => ?_, PT.of (pt_cmpR op_notN ha hb hm) fun σ H Q h => ?_⟩
    · obtain ⟨W, φ, rfl, fr, s, h⟩ := h
      exact key fr s h fun b W1 l x1 f1 s1 => l W1 (.bl b) rfl x1 s1 (.bl b)
    · obtain ⟨W, φ, rfl, fr, s, h⟩ := h
      refine key (Q := fun v H => ∃ b, v = .bl b ∧ Q b H) fr s (wpR_bind.mp h) fun b W1 l x1 f1 s1 => ⟨b, rfl, ?_⟩
      exact (show ∀ W', W'.st = W1.st → Ext W W' → SRel G W' → Q b W'.H from l) W1 rfl x1 s1
theorem yl_vals {p : Addr} {od : Obj} {ks : List Str} {ds : List D} {vs : List V} (h : W.H p = some (.frz od (.dK (zipK ks vs)))) (t : ¬ W.T p) (l : ks.length = vs.length) (r : RelL G W ds vs) : Yl G W (Itd p od (zipK ks vs)) ds := fun W' x s => by
  have q := (x.keep p _ h t nofun).1
  refine ⟨fun i d e => ?_, fun i hi => ⟨q, by rw [zipK_len l, l, ← r.length]; exact hi⟩⟩
  obtain ⟨v, e1, r1⟩ := (r.ext0 x).get e
  have hlt := (List.getElem?_eq_some_iff.mp e1).1
  refine ⟨⟨q, by rw [zipK_len l, l]; exact hlt⟩, fun y H' ⟨eH, k', e2⟩ => ⟨W', eH.symm, rfl, .refl _, s, ?_⟩⟩
  rw [zipK_get l, e1] at e2
  cases hk : ks[i]? with
  | none => rw [hk] at e2; cases e2
  | some k => rw [hk] at e2; cases e2; exact r1
theorem yl_items {p : Addr} {od : Obj} {ks : List Str} {ds : List D} {vs : List V} (h : W.H p = some (.frz od (.dK (zipK ks vs)))) (t : ¬ W.T p) (l : ks.length = vs.length) (hk : ∀ k ∈ ks, TxtOk k) (r : RelL G W ds vs) : Yl G W (Iti p od (zipK ks vs)) (List.zipWith (fun k v => .tup [.str k, v]) ks ds) := fun W' x s => by
  have q := (x.keep p _ h t nofun).1
  have ld : ks.length = ds.length := l.trans r.length.symm
  refine ⟨fun i d e => ?_, fun i hi => ⟨q, by rw [zipK_len l]; rw [List.length_zipWith, ← ld, Nat.min_self] at hi; exact hi⟩⟩
  rw [List.getElem?_zipWith] at e
  cases hk0 : ks[i]? with
  | none => rw [hk0] at e; cases e
  | some k =>
    cases hd0 : ds[i]? with
    | none => rw [hk0, hd0] at e; cases e
    | some d0 =>
      rw [hk0, hd0] at e
      have e' : D.tup [.str k, d0] = d := Option.some.inj e
      subst e'
      obtain ⟨v, e1, r1⟩ := (r.ext0 x).get hd0
      have hlt := (List.getElem?_eq_some_iff.mp hk0).1
      refine ⟨⟨q, by rw [zipK_len l]; exact hlt⟩, fun y H' ⟨T, k', v', e2, e3, e4, e5⟩ => ?_⟩
      rw [zipK_get l, hk0, e1] at e2
      cases e2
      subst e3 e5
      exact ⟨W'.lay T (.tup [kV (Sum.inr k), v]), rfl, rfl, W'.lay_ext e4, Wl.lay_s s e4, Wl.lay_tup s e4 (.cons (.str k (hk k (List.mem_of_getElem? hk0))) (.cons r1 .nil))⟩
theorem yl_zip {a b : Addr} {ds es : List D} {vs us : List V} (ha : ∀ W', Ext0 W W' → SqL G.K W'.H a vs) (hb : ∀ W', Ext0 W W' → SqL G.K W'.H b us) (r : RelL G W ds vs) (r2 : RelL G W es us) : Yl G W (Itz G.K a b) (List.zipWith (fun u v => .tup [u, v]) ds es) := fun W' x s => by
  have qa := ha W' x
  have qb := hb W' x
  refine ⟨fun i d e => ?_, fun i hi => ⟨vs, us, qa, qb, by rw [List.length_zipWith, r.length, r2.length] at hi; omega⟩⟩
  rw [List.getElem?_zipWith] at e
  cases hk0 : ds[i]? with
  | none => rw [hk0] at e; cases e
  | some d1 =>
    cases hd0 : es[i]? with
    | none => rw [hk0, hd0] at e; cases e
    | some d2 =>
      rw [hk0, hd0] at e
      have e' : D.tup [d1, d2] = d := Option.some.inj e
      subst e'
      obtain ⟨v, e1, r1⟩ := (r.ext0 x).get hk0
      obtain ⟨v2, e2, r3⟩ := (r2.ext0 x).get hd0
      refine ⟨⟨vs, us, v, v2, qa, qb, e1, e2⟩, fun y H' ⟨T, x1, y1, e3, e4, e5, e6, e7⟩ => ?_⟩
      have z1 := e6 vs qa
      have z2 := e7 us qb
      rw [e1] at z1
      rw [e2] at z2
      cases z1
      cases z2
      subst e3 e5
      exact ⟨W'.lay T (.tup [v, v2]), rfl, rfl, W'.lay_ext e4, Wl.lay_s s e4, Wl.lay_tup s e4 (.cons r1 (.cons r3 .nil))⟩
theorem yl_zipT {a b : Addr} {ds es : List D} {vs us : List V} (ha : ∀ W', Ext0 W W' → SqT G.K W'.H a vs) (hb : ∀ W', Ext0 W W' → SqT G.K W'.H b us) (r : RelL G W ds vs) (r2 : RelL G W es us) : Yl G W (ItzT G.K a b) (List.zipWith (fun u v => .tup [u, v]) ds es) := fun W' x s => by
  have qa := ha W' x
  have qb := hb W' x
  refine ⟨fun i d e => ?_, fun i hi => ⟨vs, us, qa, qb, by rw [List.length_zipWith, r.length, r2.length] at hi; omega⟩⟩
  rw [List.getElem?_zipWith] at e
  cases hk0 : ds[i]? with
  | none => rw [hk0] at e; cases e
  | some d1 =>
    cases hd0 : es[i]? with
    | none => rw [hk0, hd0] at e; cases e
    | some d2 =>
      rw [hk0, hd0] at e
      have e' : D.tup [d1, d2] = d := Option.some.inj e
      subst e'
      obtain ⟨v, e1, r1⟩ := (r.ext0 x).get hk0
      obtain ⟨v2, e2, r3⟩ := (r2.ext0 x).get hd0
      refine ⟨⟨vs, us, v, v2, qa, qb, e1, e2⟩, fun y H' ⟨T, x1, y1, e3, e4, e5, e6, e7⟩ => ?_⟩
      have z1 := e6 vs qa
      have z2 := e7 us qb
      rw [e1] at z1
      rw [e2] at z2
      cases z1
      cases z2
      subst e3 e5
      exact ⟨W'.lay T (.tup [v, v2]), rfl, rfl, W'.lay_ext e4, Wl.lay_s s e4, Wl.lay_tup s e4 (.cons r1 (.cons r3 .nil))⟩
theorem yl_enum {a : Addr} {ds : List D} {vs : List V} (ha : ∀ W', Ext0 W W' → SqL G.K W'.H a vs) (r : RelL G W ds vs) : Yl G W (Ite G.K a) (ds.zipIdx.map fun p => .tup [.int p.2, p.1]) := fun W' x s => by
  have qa := ha W' x
  refine ⟨fun i d e => ?_, fun i hi => ⟨vs, qa, by rw [List.length_map, List.length_zipIdx, r.length] at hi; exact hi⟩⟩
  rw [List.getElem?_map, List.getElem?_zipIdx] at e
  cases hk0 : ds[i]? with
  | none => rw [hk0] at e; cases e
  | some d1 =>
    rw [hk0] at e
    have e' : D.tup [.int ((0 + i : Nat) : Int), d1] = d := Option.some.inj e
    rw [Nat.zero_add] at e'
    subst e'
    obtain ⟨v, e1, r1⟩ := (r.ext0 x).get hk0
    refine ⟨⟨vs, v, qa, e1⟩, fun y H' ⟨T, x1, e3, e4, e5, e6⟩ => ?_⟩
    have z1 := e6 vs qa
    rw [e1] at z1
    cases z1
    subst e3 e5
    exact ⟨W'.lay T (.tup [.int (i : Nat), v]), rfl, rfl, W'.lay_ext e4, Wl.lay_s s e4, Wl.lay_tup s e4 (.cons (.int _) (.cons r1 .nil))⟩
theorem se_zip {e e2 : Expr} {x1 x2 : Ex} {p pos tpos : Pos} {elts : List Expr} {kk : Nat} (hK : X.K = G.K) (hg : Gl X "zip") (hm : X.mg "zip" = none) (h1 : PE X e (RE G Ww C x1)) (h2 : PE X e2 (RE G Ww C x2)) (n1 : noStar e = true) (n2 : noStar e2 = true) : PI X (.Tuple elts kk tpos) (.Call (.Name "zip" p) [e, e2] [] pos) (RI G Ww C (.zip x1 x2)) := by
  refine ⟨fun pins s σ H R I h => (pi_zipA hg hm (pa_cons h1 (pa_cons h2 pa_nil (star_of n2)) (star_of n1)) (star_of n1) (by rw [star_of n2] <;> rfl)).run pins s σ H R I ?_⟩
  obtain ⟨W, φ, rfl, f, sr, h⟩ := h
  have h' : wpR ((evE C x1 φ W.st).bind fun x st => (evE C x2 φ st).bind fun y st => match x, y with
    | .lst xs, .lst ys => ok (D.lst (List.zipWith (fun u v => .tup [u, v]) xs ys)) st
    | .tup xs, .tup ys => ok (D.lst (List.zipWith (fun u v => .tup [u, v]) xs ys)) st
    | _, _ => none) (fun d st' => ∃ ds, itemsS st' d = some ds ∧ ∀ W' J, W'.st = st' → Ext W W' → SRel G W' → YlG G d W' J ds → R J W'.H) (Xf G Ww σ W) := h
  refine RE.step f sr (wpR_bind.mp h') fun x W1 v1 q1 y1 f1 s1 r1 => ?_
  refine RE.step f1 s1 (Xf.from y1 (wpR_bind.mp q1)) fun y W2 v2 q2 y2 f2 s2 r2 => ?_
  have r1' := r1.ext y2
  cases r1' with
  | lst ha ra =>
    cases r2 with
    | lst hb rb =>
      obtain ⟨ds, e, q⟩ := q2
      cases e
      rw [hK]
      exact ⟨_, _, _, _, rfl, .inl ⟨ha.sq, hb.sq, q W2 _ rfl (y1.trans y2) s2 (yl_zip (fun W' x => (ha.ext x).sq) (fun W' x => (hb.ext x).sq) ra rb).g⟩⟩
    | _ => exact (show False from q2).elim
  | tup ha ra =>
    cases r2 with
    | tup hb rb =>
      obtain ⟨ds, e, q⟩ := q2
      cases e
      rw [hK]
      exact ⟨_, _, _, _, rfl, .inr ⟨ha.sq, hb.sq, q W2 _ rfl (y1.trans y2) s2 (yl_zipT (fun W' x => (ha.ext x).sq) (fun W' x => (hb.ext x).sq) ra rb).g⟩⟩
    | _ => exact (show False from q2).elim
  | _ => cases r2 <;> exact (show False from q2).elim
theorem se_enum {e : Expr} {x1 : Ex} {p pos tpos : Pos} {elts : List Expr} {kk : Nat} (hK : X.K = G.K) (hg : Gl X "enumerate") (hm : X.mg "enumerate" = none) (h1 : PE X e (RE G Ww C x1)) (n1 : noStar e = true) : PI X (.Tuple elts kk tpos) (.Call (.Name "enumerate" p) [e] [] pos) (RI G Ww C (.enum x1)) := by
  refine ⟨fun pins s σ H R I h => (pi_enum hg hm (pa_cons h1 pa_nil (star_of n1)) (star_of n1)).run pins s σ H R I ?_⟩
  obtain ⟨W, φ, rfl, f, sr, h⟩ := h
  have h' : wpR ((evE C x1 φ W.st).bind fun x st => match x with
    | .lst xs => ok (D.lst (xs.zipIdx.map fun p => .tup [.int p.2, p.1])) st
    | _ => none) (fun d st' => ∃ ds, itemsS st' d = some ds ∧ ∀ W' J, W'.st = st' → Ext W W' → SRel G W' → YlG G d W' J ds → R J W'.H) (Xf G Ww σ W) := h
  refine RE.step f sr (wpR_bind.mp h') fun x W1 v1 q1 y1 f1 s1 r1 => ?_
  cases r1 with
  | lst ha ra =>
    obtain ⟨ds, e, q⟩ := q1
    cases e
    rw [hK]
    exact ⟨_, _, rfl, ha.sq, q W1 _ rfl y1 s1 (yl_enum (fun W' x => (ha.ext x).sq) ra).g⟩
  | _ => exact (show False from q1).elim
theorem se_values {tg e : Expr} {x1 : Ex} {apos cpos : Pos} (h1 : PE X e (RE G Ww C x1)) (hbase : attributeBase e "values" X.env (eval e X.env) = eval e X.env) (hline : (apos.endLine == cpos.line) = true) : PI X tg (.Call (.Attribute e "values" apos) [] [] cpos) (RI G Ww C (.values x1)) := by
  refine ⟨fun pins s σ H R I h => (pi_values h1 hbase hline).run pins s σ H R I ?_⟩
  obtain ⟨W, φ, rfl, f, sr, h⟩ := h
  have h' : wpR ((evE C x1 φ W.st).bind fun x st => match x with
    | .dct _ vs => ok (D.lst vs) st
    | _ => none) (fun d st' => ∃ ds, itemsS st' d = some ds ∧ ∀ W' J, W'.st = st' → Ext W W' → SRel G W' → YlG G d W' J ds → R J W'.H) (Xf G Ww σ W) := h
  refine RE.step f sr (wpR_bind.mp h') fun x W1 v1 q1 y1 f1 s1 r1 => ?_
  cases r1 with
  | dct a l hk r =>
    obtain ⟨ds, e, q⟩ := q1
    cases e
    obtain ⟨⟨od, a⟩, t⟩ := a
    exact ⟨_, od, _, rfl, a, q W1 _ rfl y1 s1 (yl_vals a t (l.trans r.length) r).g⟩
  | _ => exact (show False from q1).elim
theorem se_items {e : Expr} {x1 : Ex} {apos cpos tpos : Pos} {elts : List Expr} {kk : Nat} (h1 : PE X e (RE G Ww C x1)) (hbase : attributeBase e "items" X.env (eval e X.env) = eval e X.env) (hline : (apos.endLine == cpos.line) = true) : PI X (.Tuple elts kk tpos) (.Call (.Attribute e "items" apos) [] [] cpos) (RI G Ww C (.items x1)) := by
  refine ⟨fun pins s σ H R I h => (pi_items h1 hbase hline).run pins s σ H R I ?_⟩
  obtain ⟨W, φ, rfl, f, sr, h⟩ := h
  have h' : wpR ((evE C x1 φ W.st).bind fun x st => match x with
    | .dct ks vs => ok (D.lst (List.zipWith (fun k v => .tup [.str k, v]) ks vs)) st
    | _ => none) (fun d st' => ∃ ds, itemsS st' d = some ds ∧ ∀ W' J, W'.st = st' → Ext W W' → SRel G W' → YlG G d W' J ds → R J W'.H) (Xf G Ww σ W) := h
  refine RE.step f sr (wpR_bind.mp h') fun x W1 v1 q1 y1 f1 s1 r1 => ?_
  cases r1 with
  | dct a l hk r =>
    obtain ⟨ds, e, q⟩ := q1
    cases e
    obtain ⟨⟨od, a⟩, t⟩ := a
    exact ⟨_, od, _, rfl, a, q W1 _ rfl y1 s1 (yl_items a t (l.trans r.length) hk r).g⟩
  | _ => exact (show False from q1).elim
theorem FRel.wipeL {ws : List Nat} (f : FRel G W φ σ) : FRel G W (wipeF φ ws) σ := ⟨by rw [wipeF_length]; exact f.len, fun i d e => f.at_ i d (wipeF_get φ i e).1⟩
theorem forL_G {body : D → Fr → Store → SR} : ∀ {xs : List D} {φ : Fr} {st : Store}, forL body xs φ st = forG (fun _ => True) [] body xs φ st
  | [], φ, st => by unfold forL forG; rw [if_pos trivial]; rfl
  | x :: xs, φ, st => by
    unfold forL forG
    rw [if_pos trivial]
    show (match body x φ st with
      | some (.nx φ' st') => forL body xs φ' st'
      | some (.cnt φ' st') => forL body xs φ' st'
      | some (.brk φ' st') => some (.nx φ' st')
      | r => r) = (match body x φ st with
      | some (.nx φ' st') => forG (fun _ => True) [] body xs φ' st'
      | some (.cnt φ' st') => forG (fun _ => True) [] body xs φ' st'
      | some (.brk φ' st') => some (.nx φ' st')
      | r => r)
    simp only [forL_G]
theorem forW_G {ws : List Nat} {body : D → Fr → Store → SR} : ∀ {xs : List D} {φ : Fr} {st : Store}, forW ws body xs φ st = forG (fun _ => True) ws body xs φ st
  | [], φ, st => by unfold forW forG; rw [if_pos trivial]
  | x :: xs, φ, st => by
    unfold forW forG
    rw [if_pos trivial]
    simp only [forW_G]
theorem for_core {ws : List Nat} {t : Tg} {eb : List Sm} {g : Store → Prop} [DecidablePred g] {W W1 : Wl} {φ : Fr} {J : It} {E : Ends} {xs : List D} {st : Store} (f : FRel G W φ σ)
    (q : wpS G Ww W E (forG g ws (fun d φ st => match bindT st t d φ with
        | some φ' => evSs C eb φ' st
        | none => none) xs φ st)) (a : W1.st = st) (x1 : Ext W W1) (s1 : SRel G W1)
    (yl : ∀ W', Ext0 W1 W' → SRel G W' → g W'.st → (∀ i d, xs[i]? = some d → J.go i W'.H ∧ ∀ x H', J.yld i W'.H x H' → ∃ W'', W''.H = H' ∧ W''.st = W'.st ∧ Ext W' W'' ∧ SRel G W'' ∧ Rel G W'' d x) ∧ ∀ i, xs.length ≤ i → J.stop i W'.H) :
    ∃ I : Nat → Nat → L2.St → Hp → Prop, (∃ n, I 0 n σ W1.H) ∧ ∀ i n σ2 H, I i n σ2 H → (J.stop i H ∧ E.nx σ2 H) ∨ (J.go i H ∧ ∃ Nx : L2.St → Hp → Prop, (∀ σ' H', Nx σ' H' → ∃ n', n' < n ∧ I (i + 1) n' σ' H') ∧ ∀ x H', J.yld i H x H' → RG G t x σ2 H' fun σ' H2 => RSs G Ww C eb { E with nx := Nx, ct := Nx, bk := E.nx } σ' H2) := by
  generalize hbody : (fun (d : D) φ st => match bindT st t d φ with
      | some φ' => evSs C eb φ' st
      | none => none : D → Fr → Store → SR) = body' at q
  refine ⟨fun i n σ H => n = xs.length - i ∧ i ≤ xs.length ∧ ∃ W2 φ2, W2.H = H ∧ Ext W1 W2 ∧ SRel G W2 ∧ FRel G W2 φ2 σ ∧ wpS G Ww W E (forG g ws body' (xs.drop i) φ2 W2.st), ⟨_, rfl, Nat.zero_le _, W1, φ, rfl, .refl _, s1, f.ext x1, by rw [a]; exact q⟩, ?_⟩
  rintro i n σ2 H ⟨rfl, hi, W2, φ2, rfl, x2, s2, f2, q2⟩
  have hg2 : g W2.st := by
    by_cases z : g W2.st
    · exact z
    · by_cases hlt : i < xs.length
      · rw [List.drop_eq_getElem_cons hlt] at q2
        unfold forG at q2
        rw [if_neg z] at q2
        exact (show False from q2).elim
      · have e : i = xs.length := by omega
        rw [e, List.drop_length] at q2
        unfold forG at q2
        rw [if_neg z] at q2
        exact (show False from q2).elim
  have yy := yl W2 x2.toExt0 s2 hg2
  by_cases hlt : i < xs.length
  · refine .inr ⟨(yy.1 i xs[i] (List.getElem?_eq_getElem hlt)).1, fun σ' H' => i + 1 ≤ xs.length ∧ ∃ W3 φ3, W3.H = H' ∧ Ext W1 W3 ∧ SRel G W3 ∧ FRel G W3 φ3 σ' ∧ wpS G Ww W E (forG g ws body' (xs.drop (i + 1)) φ3 W3.st), fun σ' H' z => ⟨xs.length - (i + 1), by omega, rfl, z⟩, fun x H' hy => ?_⟩
    obtain ⟨W3, rfl, e3, x3, s3, r3⟩ := (yy.1 i xs[i] (List.getElem?_eq_getElem hlt)).2 x H' hy
    rw [List.drop_eq_getElem_cons hlt, ← e3] at q2
    unfold forG at q2
    rw [if_pos (e3 ▸ hg2 : g W3.st)] at q2
    rw [show body' xs[i] (wipeF φ2 ws) W3.st = (match bindT W3.st t xs[i] (wipeF φ2 ws) with
      | some φ' => evSs C eb φ' W3.st
      | none => none) by rw [← hbody]] at q2
    cases eb1 : bindT W3.st t xs[i] (wipeF φ2 ws) with
    | none => rw [eb1] at q2; exact (show False from q2).elim
    | some φ' =>
      rw [eb1] at q2
      dsimp only at q2
      refine ⟨W3, wipeF φ2 ws, xs[i], φ', rfl, FRel.wipeL (f2.ext x3), s3, r3, eb1, fun σ' f' _ => ⟨W3, φ', rfl, f', s3, ?_⟩⟩
      have x03 : Ext W W3 := (x1.trans x2).trans x3
      cases er : evSs C eb φ' W3.st with
      | none => rw [er] at q2; exact q2
      | some o =>
        rw [er] at q2
        cases o with
        | nx φ4 st4 => exact fun W4 σ4 a4 x4 s4 f4 => ⟨hlt, W4, φ4, rfl, (x2.trans x3).trans x4, s4, f4, by rw [a4]; exact q2⟩
        | cnt φ4 st4 => exact fun W4 σ4 a4 x4 s4 f4 => ⟨hlt, W4, φ4, rfl, (x2.trans x3).trans x4, s4, f4, by rw [a4]; exact q2⟩
        | brk φ4 st4 => exact fun W4 σ4 a4 x4 s4 f4 => (show ∀ W5 σ5, W5.st = st4 → Ext W W5 → SRel G W5 → FRel G W5 (wipeF φ4 ws) σ5 → E.nx σ5 W5.H from q2) W4 σ4 a4 (x03.trans x4) s4 (FRel.wipeL f4)
        | ret d4 st4 => exact wpS_from x03 (r := some (.ret d4 st4)) (E := E) q2
        | exc x4 φ4 st4 => exact wpS_from x03 (r := some (.exc x4 φ4 st4)) (E := E) q2
  · have e : i = xs.length := by omega
    rw [e, List.drop_length] at q2
    unfold forG at q2
    rw [if_pos hg2] at q2
    exact .inl ⟨yy.2 i (by omega), (show ∀ W5 σ5, W5.st = W2.st → Ext W W5 → SRel G W5 → FRel G W5 (wipeF φ2 ws) σ5 → E.nx σ5 W5.H from q2) W2 σ2 rfl (x1.trans x2) s2 (FRel.wipeL f2)⟩
theorem sm_for {tg iter : Expr} {body : List Stmt} {t : Tg} {ei : Ex} {eb : List Sm} {pos : Pos} (hp : PassesOwn (model X.prog X.w) X.A X.env X.xe) (hc : X.calm = true) (hi : PI X tg iter (RI G Ww C ei)) (hg : PG X tg (RG G t)) (hb : PSs X body (RSs G Ww C eb)) (hs : ∀ x, foldedSetIterable iter X.env x = pure x) :
    PS X (.For tg iter body [] pos) (RS G Ww C (.for t ei eb)) := by
  refine PS.of (ps_for hp hc hi hg hb hs) fun E σ H h => ?_
  obtain ⟨W, φ, rfl, f, s, h⟩ := h
  refine ⟨W, φ, rfl, f, s, wpR_mono (wpS_toS f h) (fun d st q => ?_) fun _ _ q => q⟩
  cases e0 : itemsOf d with
  | none =>
    rw [e0] at q
    dsimp only at q
    cases e1 : itemsS st d with
    | none => rw [e1] at q; exact q.elim
    | some xs =>
      rw [e1] at q
      exact ⟨xs, rfl, fun W1 J a x1 s1 yl => for_core (ws := []) (g := Same d xs) f q a x1 s1 yl⟩
  | some xs =>
    rw [e0] at q
    refine ⟨xs, itemsS_of _ e0, fun W1 J a x1 s1 yl => for_core (ws := []) (g := fun _ => True) f ?_ a x1 s1 fun W' x s _ => yl.of e0 W' x s⟩
    rw [← forL_G]
    exact q
theorem sm_forw {ws : List Nat} {tg iter : Expr} {body : List Stmt} {t : Tg} {ei : Ex} {eb : List Sm} {pos : Pos} (hp : PassesOwn (model X.prog X.w) X.A X.env X.xe) (hc : X.calm = true) (hi : PI X tg iter (RI G Ww C ei)) (hg : PG X tg (RG G t)) (hb : PSs X body (RSs G Ww C eb)) (hs : ∀ x, foldedSetIterable iter X.env x = pure x) :
    PS X (.For tg iter body [] pos) (RS G Ww C (.forw ws t ei eb)) := by
  refine PS.of (ps_for hp hc hi hg hb hs) fun E σ H h => ?_
  obtain ⟨W, φ, rfl, f, s, h⟩ := h
  refine ⟨W, φ, rfl, f, s, wpR_mono (wpS_toS f h) (fun d st q => ?_) fun _ _ q => q⟩
  cases e0 : itemsOf d with
  | none =>
    rw [e0] at q
    dsimp only at q
    cases e1 : itemsS st d with
    | none => rw [e1] at q; exact q.elim
    | some xs =>
      rw [e1] at q
      exact ⟨xs, rfl, fun W1 J a x1 s1 yl => for_core (ws := ws) (g := Same d xs) f q a x1 s1 yl⟩
  | some xs =>
    rw [e0] at q
    refine ⟨xs, itemsS_of _ e0, fun W1 J a x1 s1 yl => for_core (ws := ws) (g := fun _ => True) f ?_ a x1 s1 fun W' x s _ => yl.of e0 W' x s⟩
    rw [← forW_G]
    exact q
end
end OM
namespace OM
open PySem PySem.Spec L2
section
variable {G : GX} {W : Wl}
/-- a thing that is being built -/
def Wl.buildO (W : Wl) (q : Addr) (ho : HO) : Wl := { W with H := upd W.H q ho, B := fun p => W.B p ∨ p = q }
def Wl.appO (W : Wl) (q : Addr) (ho : HO) : Wl := { W with H := upd W.H q ho }
def Wl.doneO (W : Wl) (q : Addr) (ho : HO) : Wl := { W with H := upd W.H q ho, B := fun p => W.B p ∧ p ≠ q }
theorem Wl.buildO_ext {q : Addr} {ho : HO} (h : W.H q = none) : Ext W (W.buildO q ho) := by
  have k : ∀ p u, W.H p = some u → (W.buildO q ho).H p = some u := fun p u e => by
    show upd W.H q _ p = some u
    rw [upd_ne (ne_of_none e h)]
    exact e
  refine ⟨⟨Nat.le_refl _, fun _ _ => rfl, fun p u e t _ => ⟨k p u e, fun tt => ?_⟩⟩, fun p u b e => ⟨.inl b, k p u e⟩⟩
  rcases tt with tt | b | z
  · exact t (.inl tt)
  · exact t (.inr b)
  · exact ne_of_none e h z
theorem Wl.buildO_s {q : Addr} {ho : HO} (s : SRel G W) (h : W.H q = none) (ph : Pln ho) : SRel G (W.buildO q ho) := by
  have ne : ∀ n o, W.st.get n = some o → W.al n ≠ q := fun n o e z => Wl.notT s h (.inl ⟨n, o, e, z⟩)
  refine ⟨s.lt, s.inj, fun n o e => (s.ob n o e).ext (W.buildO_ext h).toExt0 ?_, fun p b => ?_, fun n o e b => ?_, tab_of s (tab_new h)⟩
  · exact upd_ne (ne n o e)
  · rcases b with b | z
    · obtain ⟨u, e, pu⟩ := s.bok p b
      exact ⟨u, ((W.buildO_ext h).bld p u b e).2, pu⟩
    · rw [z]; exact ⟨_, upd_same, ph⟩
  · rcases b with b | z
    · exact s.bsep n o e b
    · exact ne n o e z
theorem Wl.appO_ext {q : Addr} {ho : HO} (b : W.B q) : Ext0 W (W.appO q ho) :=
  ⟨Nat.le_refl _, fun _ _ => rfl, fun p u e t _ => ⟨(upd_ne fun (z : p = q) => t (.inr (z ▸ b))).trans e, t⟩⟩
theorem Wl.appO_s {q : Addr} {ho : HO} (s : SRel G W) (b : W.B q) (ph : Pln ho) : SRel G (W.appO q ho) := by
  refine ⟨s.lt, s.inj, fun n o e => (s.ob n o e).ext (W.appO_ext b) (upd_ne fun (z : W.al n = q) => s.bsep n o e (z ▸ b)), fun p hb => ?_, s.bsep, tab_of s (tab_T s (.inr b))⟩
  by_cases z : p = q
  · rw [z]; exact ⟨_, upd_same, ph⟩
  · obtain ⟨u, e, pu⟩ := s.bok p hb
    exact ⟨u, (upd_ne z).trans e, pu⟩
theorem Wl.doneO_T {q p : Addr} {ho : HO} (t : (W.doneO q ho).T p) : W.T p ∧ (W.B p → p ≠ q ∨ ∃ n o, W.st.get n = some o ∧ W.al n = p) := by
  rcases t with t | b
  · exact ⟨.inl t, fun _ => .inr t⟩
  · exact ⟨.inr b.1, fun _ => .inl b.2⟩
theorem Wl.doneO_ext0 {q : Addr} {ho : HO} (b : W.B q) : Ext0 W (W.doneO q ho) := ⟨Nat.le_refl _, fun _ _ => rfl, fun p u e t _ => ⟨(upd_ne fun (z : p = q) => t (.inr (z ▸ b))).trans e, fun tt => t (Wl.doneO_T tt).1⟩⟩
theorem Wl.doneO_s {q : Addr} {ho : HO} (s : SRel G W) (b : W.B q) : SRel G (W.doneO q ho) :=
  ⟨s.lt, s.inj, fun n o e => (s.ob n o e).ext (W.doneO_ext0 b) (upd_ne fun (z : W.al n = q) => s.bsep n o e (z ▸ b)), fun p hb => by
    obtain ⟨u, e, pu⟩ := s.bok p hb.1
    exact ⟨u, (upd_ne hb.2).trans e, pu⟩, fun n o e hb => s.bsep n o e hb.1, tab_of s (tab_T s (.inr b))⟩
theorem Wl.doneO_dct {q : Addr} {ks : List Str} {ds : List D} {vs : List V} {od : Obj} (s : SRel G W) (b : W.B q) (l : ks.length = ds.length) (hk : ∀ k ∈ ks, TxtOk k) (r : RelL G W ds vs) : Rel G (W.doneO q (.frz od (.dK (zipK ks vs)))) (.dct ks ds) (.ref q) := by
  refine .dct ⟨⟨od, upd_same⟩, fun t => ?_⟩ l hk (r.ext0 (W.doneO_ext0 b))
  rcases t with ⟨n, o, e, z⟩ | ⟨_, z⟩
  · exact s.bsep n o e (by rw [show W.al n = q from z]; exact b)
  · exact z rfl
/-- what is wanted of the built dict -/
theorem Lf.builtD {W0 : Wl} {q : Addr} {ks : List Str} {ds : List D} {vs : List V} {Q : VK} (x : Ext W0 W) (hq : W0.H q = none) (s : SRel G W) (b : W.B q) (h : W.H q = some (.dK (zipK ks vs))) (lk : ks.length = ds.length) (hk : ∀ k ∈ ks, TxtOk k) (r : RelL G W ds vs) (l : Lf G W0 (.dct ks ds) W.st Q) : QLock Q (.ref q) W.H :=
  .inr ⟨q, _, h, trivial, fun od => l (W.doneO q (.frz od (.dK (zipK ks vs)))) _ rfl ⟨x.toExt0.trans (W.doneO_ext0 b), fun p u b0 e0 => by
    have z := x.bld p u b0 e0
    exact ⟨⟨z.1, ne_of_none e0 hq⟩, (upd_ne (ne_of_none e0 hq)).trans z.2⟩⟩ (Wl.doneO_s s b) (Wl.doneO_dct s b lk hk r)⟩
end
section
variable {G : GX} {Ww : WX} {C : Calls} {X : Cx}
/-- what the turns are to reach -/
structure TnD (G : GX) (W1 : Wl) (q : Addr) (xs : List D) (body : D → Store → Res (Option (Str × D))) (k : List Str × List D → Store → Prop) (i : Nat) (H : Hp) : Prop where
  ex : ∃ W ks ds vs, W.H = H ∧ SRel G W ∧ Ext W1 W ∧ W.B q ∧ H q = some (.dK (zipK ks vs)) ∧ RelL G W ds vs ∧ ks.length = ds.length ∧ (∀ k ∈ ks, TxtOk k) ∧ ds.length ≤ i ∧ wpR (turnsD body (xs.drop i) ks ds W.st) k (fun _ _ => False)
theorem putV_le {ks : List Str} {ds : List D} {x : Str} {d : D} (l : ks.length = ds.length) : (putV ks ds x d).length ≤ ds.length + 1 := by
  unfold putV
  split
  · rw [List.length_zipWith]; omega
  · simp
theorem putN_ok {ks : List Str} {x : Str} (h : ∀ k ∈ ks, TxtOk k) (hx : TxtOk x) : ∀ k ∈ putN ks x, TxtOk k := fun k hk => by
  unfold putN at hk
  by_cases hx2 : x ∈ ks
  · rw [if_pos hx2] at hk; exact h k hk
  · rw [if_neg hx2, List.mem_append, List.mem_singleton] at hk
    rcases hk with hk | rfl
    · exact h k hk
    · exact hx
theorem se_dcomp {kx vx tg iter : Expr} {ifs : List Expr} {scope : Scope} {own : List (Str × Nat)} {pos : Pos} {t : Tg} {ei ek ev : Ex} {ec : Option Ex} (hK : X.K = G.K) (hc : X.calm = true) (hN : X.N.Nodup) (hi : PI X tg iter (RI G Ww C ei)) (blk : BlkOk X.N X.env.scope scope own) (hown : own.map (·.2) = t.slots)
    (hg : ∀ (s : Shared) (H : Hp) (L : Addr) (cl : List (Str × Addr)) (fp : List Addr), PG (X.blk s H scope (compEnvC scope cl L X.env) fp) tg (RG G t))
    (ht : ∀ (s : Shared) (H : Hp) (L : Addr) (cl : List (Str × Addr)) (fp : List Addr), PTs (X.blk s H scope (compEnvC scope cl L X.env) fp) ifs (RC G WN C ec))
    (hk : ∀ (s : Shared) (H : Hp) (L : Addr) (cl : List (Str × Addr)) (fp : List Addr), PE (X.blk s H scope (compEnvC scope cl L X.env) fp) kx (RE G WN C ek))
    (he : ∀ (s : Shared) (H : Hp) (L : Addr) (cl : List (Str × Addr)) (fp : List Addr), PE (X.blk s H scope (compEnvC scope cl L X.env) fp) vx (RE G WN C ev)) (hs : ∀ x, foldedSetIterable iter X.env x = pure x) :
    PE X (.DictComp kx vx [⟨tg, iter, ifs, 0⟩] scope pos) (RE G Ww C (.dcomp t ei ec ek ev)) := by
  refine PE.of (pe_may (pe_dc hc hN hi blk hg ht hk he hs)) fun σ H Q h => ?_
  obtain ⟨W, φ, rfl, f, s, h⟩ := h
  refine ⟨W, φ, rfl, f, s, wpR_mono (wpR_bind.mp h) (fun d st q => ?_) fun _ _ q => q⟩
  cases e0 : itemsOf d with
  | none => rw [e0] at q; exact q.elim
  | some xs =>
    rw [e0] at q
    have q : wpR (if xs.length < line then (noX (turnsD (fun d st => match bindT st t d (wipeF φ t.slots) with
        | some φ' => (evC C ec φ' st).bind fun b st => if b then (evE C ek φ' st).bind fun kd st => (evE C ev φ' st).bind fun vd st => (lift (asKey kd vd) st).bind fun p st => ok (some p) st else ok none st
        | none => none) xs [] [] st)).bind fun p st => ok (D.dct p.1 p.2) st else none) (fun d st' => Lf G W d st' Q) (Xf G Ww σ W) := q
    by_cases hz : xs.length < line
    · rw [if_pos hz] at q
      refine ⟨xs, itemsS_of _ e0, fun W1 J a x1 s1 ylg q0 hD => ?_⟩
      have yl := ylg.of e0
      have q1 := wpR_noX (wpR_bind.mp q)
      generalize hbody : (fun d st => match bindT st t d (wipeF φ t.slots) with
        | some φ' => (evC C ec φ' st).bind fun b st => if b then (evE C ek φ' st).bind fun kd st => (evE C ev φ' st).bind fun vd st => (lift (asKey kd vd) st).bind fun p st => ok (some p) st else ok none st
        | none => none : D → Store → Res (Option (Str × D))) = body at q1
      generalize hk0 : (fun p st => wpR (ok (D.dct p.1 p.2) st) (fun d st' => Lf G W d st' Q) (Xf G Ww σ W) : List Str × List D → Store → Prop) = k at q1
      refine ⟨fun i n H => n = xs.length - i ∧ i ≤ xs.length ∧ TnD G W1 q0 xs body k i H, ⟨_, rfl, Nat.zero_le _, ⟨W1.buildO q0 (.dK []), [], [], [], rfl, Wl.buildO_s s1 hD trivial, Wl.buildO_ext hD, .inr rfl, upd_same, .nil, rfl, (fun k hk => by cases hk), Nat.le_refl _, ?_⟩⟩, ?_⟩
      · have q2 : wpR (turnsD body xs [] [] st) k (fun _ _ => False) := q1
        rw [← a] at q2
        exact q2
      rintro i n H ⟨rfl, hi, tn⟩
      obtain ⟨W2, ks, ds, vs, rfl, s2, x2, b2, hD2, r2, lk2, hk2, hl2, q2⟩ := tn.ex
      have yy := yl W2 x2.toExt0 s2
      by_cases hlt : i < xs.length
      · refine .inr ⟨(yy.1 i xs[i] (List.getElem?_eq_getElem hlt)).1, TnD G W1 q0 xs body k (i + 1), fun H' t' => ⟨xs.length - (i + 1), by omega, rfl, hlt, t'⟩, fun x H' hy => ?_⟩
        obtain ⟨W3, rfl, e3, x3, s3, r3⟩ := (yy.1 i xs[i] (List.getElem?_eq_getElem hlt)).2 x H' hy
        rw [List.drop_eq_getElem_cons hlt] at q2
        have q3 := wpR_bind.mp (show wpR ((body xs[i] W2.st).bind fun o st => match o with
          | some (k, v) => turnsD body (xs.drop (i + 1)) (putN ks k) (putV ks ds k v) st
          | none => turnsD body (xs.drop (i + 1)) ks ds st) k (fun _ _ => False) from q2)
        rw [← e3, ← hbody] at q3
        rw [hown]
        have f3 : FRel G W3 φ σ := ((f.ext (x1)).ext x2).ext x3
        cases eb : bindT W3.st t xs[i] (wipeF φ t.slots) with
        | none =>
          dsimp only at q3
          rw [eb] at q3
          exact (show False from q3).elim
        | some φ' =>
          dsimp only at q3
          rw [eb] at q3
          refine ⟨W3, wipeF φ t.slots, xs[i], φ', rfl, f3.wipe _, s3, r3, eb, fun σ' f' off => ⟨off.wipe, W3, φ', rfl, f', s3, wpR_mono (wpR_bind.mp q3) (fun b st q4 W4 e4 x4 s4 => ?_) fun _ _ z => z.elim⟩⟩
          have keep : ∀ {W5 : Wl}, Ext W3 W5 → W5.B q0 ∧ W5.H q0 = some (.dK (zipK ks vs)) := fun {W5} x5 => by
            have z := x3.bld q0 _ b2 hD2
            exact x5.bld q0 _ z.1 z.2
          cases b with
          | false =>
            have q5 : wpR (turnsD _ (xs.drop (i + 1)) ks ds st) k (fun _ _ => False) := q4
            rw [hbody, ← e4] at q5
            refine (if_neg (by decide) : (if false = true then _ else TnD G W1 q0 xs body k (i + 1) W4.H) = _).mpr ?_
            exact ⟨W4, ks, ds, vs, rfl, s4, (x2.trans x3).trans x4, (keep x4).1, (keep x4).2, (r2.ext x3).ext x4, lk2, hk2, Nat.le_succ_of_le hl2, q5⟩
          | true =>
            refine (if_pos rfl : (if true = true then (RE G WN C ek σ' W4.H fun y H4 => RE G WN C ev σ' H4 fun z H5 => ∃ kvs k0, y = kV k0 ∧ H5 q0 = some (HO.dK kvs) ∧ kvs.length < sizeLine ∧ TnD G W1 q0 xs body k (i + 1) (upd H5 q0 (HO.dK (putK kvs k0 z)))) else TnD G W1 q0 xs body k (i + 1) W4.H) = _).mpr ?_
            have q5 := wpR_bind.mp q4
            rw [← e4] at q5
            refine RE.step (f'.ext x4) s4 (wpR_mono q5 (fun _ _ q => q) fun _ _ (z : False) => z.elim) fun kd W5 vk q6 x5 f5 s5 r5 => ?_
            refine RE.step f5 s5 (wpR_mono (wpR_bind.mp q6) (fun _ _ q => q) fun _ _ (z : False) => z.elim) fun vd W6 vv q7 x6 f6 s6 r6 => ?_
            obtain ⟨p, ep, q8⟩ := wpR_lift (wpR_bind.mp q7)
            cases r5 with
            | str key hkey =>
              cases ep
              have q9 : wpR (turnsD _ (xs.drop (i + 1)) (putN ks key) (putV ks ds key vd) W6.st) k (fun _ _ => False) := q8
              rw [hbody] at q9
              have kp := keep ((x4.trans x5).trans x6)
              have r2' := (((r2.ext x3).ext x4).ext x5).ext x6
              obtain ⟨us, ru, ek, _⟩ := putV_rel (x := key) lk2 r2' r6
              have lv : ks.length = vs.length := lk2.trans r2.length
              refine ⟨_, Sum.inr key, rfl, kp.2, by rw [zipK_len lv, ← line_eq]; omega, ⟨W6.appO q0 (.dK (zipK (putN ks key) us)), putN ks key, putV ks ds key vd, us, ?_, Wl.appO_s s6 kp.1 trivial, ?_, kp.1, ?_, ru.ext0 (Wl.appO_ext kp.1), putV_len lk2, putN_ok hk2 hkey, Nat.le_trans (putV_le lk2) (Nat.succ_le_succ hl2), q9⟩⟩
              · rw [← ek] <;> rfl
              · have x15 : Ext W1 W6 := (((x2.trans x3).trans x4).trans x5).trans x6
                refine ⟨x15.toExt0.trans (Wl.appO_ext kp.1), fun p u b0 e0 => ?_⟩
                have z := x15.bld p u b0 e0
                exact ⟨z.1, (upd_ne (ne_of_none e0 hD)).trans z.2⟩
              · rw [← ek]; exact upd_same
            | _ => cases ep
      · have e : i = xs.length := by omega
        refine .inl ⟨yy.2 i (by omega), ?_⟩
        rw [e, List.drop_length] at q2
        have q3 : k (ks, ds) W2.st := q2
        rw [← hk0] at q3
        exact Lf.builtD x2 hD s2 b2 hD2 lk2 hk2 r2 ((show Lf G W (.dct ks ds) W2.st Q from q3).from x1)
    · rw [if_neg hz] at q
      exact q.elim
theorem pairs_rel {W : Wl} : ∀ {xs : List D} {vs : List V} {ks : List Str} {ds : List D}, RelL G W xs vs → pairsOf xs = some (ks, ds) → ∃ (ps : List Addr) (us : List V), vs = ps.map V.ref ∧ RelL G W ds us ∧ ks.length = ds.length ∧ (∀ k ∈ ks, TxtOk k) ∧ Paired (fun p (kv : Key × V) => SqT G.K W.H p [kV kv.1, kv.2]) ps (zipK ks us) ∧ xs.length = ks.length
  | [], _, _, _, .nil, h => by cases h; exact ⟨[], [], rfl, .nil, rfl, (fun k hk => by cases hk), .nil, rfl⟩
  | x :: xs, _, ks, ds, .cons r rr, h => by
    cases r with
    | tup ht rt =>
      cases rt with
      | nil => cases h
      | cons r1 rt =>
        cases rt with
        | nil => cases r1 <;> cases h
        | cons r2 rt =>
          cases rt with
          | cons _ _ => cases r1 <;> cases h
          | nil =>
            cases r1 with
            | str k hk =>
              rename_i p d2 v2
              have h' : (pairsOf xs).map (fun p => (k :: p.1, d2 :: p.2)) = some (ks, ds) := h
              cases e : pairsOf xs with
              | none => rw [e] at h'; cases h'
              | some kd =>
                obtain ⟨ks1, ds1⟩ := kd
                rw [e] at h'
                cases h'
                obtain ⟨ps, us, e1, e2, e3, e4, e5, e6⟩ := pairs_rel rr e
                refine ⟨p :: ps, v2 :: us, by rw [e1] <;> rfl, .cons r2 e2, congrArg Nat.succ e3, fun k0 hk0 => ?_, .cons ht.sq e5, congrArg Nat.succ e6⟩
                rcases List.mem_cons.mp hk0 with z | z
                · rw [z]; exact hk
                · exact e4 k0 z
            | _ => cases h
    | _ => cases h
theorem fill_rel {W : Wl} : ∀ {ls : List Str} {ks : List Str} {ds es : List D} {vs us : List V}, ks.length = ds.length → RelL G W ds vs → (∀ k ∈ ks, TxtOk k) → ls.length = es.length → RelL G W es us → (∀ k ∈ ls, TxtOk k) →
    ∃ ws, (fillK ks ds ls es).1.length = (fillK ks ds ls es).2.length ∧ RelL G W (fillK ks ds ls es).2 ws ∧ (∀ k ∈ (fillK ks ds ls es).1, TxtOk k) ∧ zipK (fillK ks ds ls es).1 ws = (zipK ls us).foldl (fun acc kv => putK acc kv.1 kv.2) (zipK ks vs)
  | [], ks, ds, es, vs, us, l, r, hk, l2, r2, hk2 => by
    cases es with
    | nil => exact ⟨vs, l, r, hk, rfl⟩
    | cons _ _ => cases l2
  | x :: ls, ks, ds, es, vs, us, l, r, hk, l2, r2, hk2 => by
    cases es with
    | nil => cases l2
    | cons d es =>
      cases r2 with
      | cons ra rb =>
        rename_i v us
        obtain ⟨us1, ru, ek, _⟩ := putV_rel (x := x) l r ra
        obtain ⟨ws, h1, h2, h3, h4⟩ := fill_rel (ls := ls) (ks := putN ks x) (ds := putV ks ds x d) (putV_len l) ru (putN_ok hk (hk2 x (List.mem_cons_self ..))) (by simpa using l2) rb fun k hk => hk2 k (List.mem_cons_of_mem _ hk)
        refine ⟨ws, h1, h2, h3, ?_⟩
        show _ = (zipK ls us).foldl _ (putK (zipK ks vs) (Sum.inr x) v)
        rw [← ek]
        exact h4
theorem bi_dict (hK : X.K = G.K) (hc : X.calm = true) (m : Bool) {e : Expr} {pos p : Pos} {ee : Ex} (hg : Gl X "dict") (hm : X.mg "dict" = none) (he : PE X e (RE G Ww C ee)) (hn : noStar e = true) : PE X (.Call (.Name "dict" p) [e] [] pos) (RE G Ww C (.bi m .dict [ee])) := by
  have key : ∀ {σ : L2.St} {Q : VK} {H : Hp}, RE G Ww C (.bi m .dict [ee]) σ H Q → RE G Ww C ee σ H fun v H1 => ∃ W1 d ks ds, W1.H = H1 ∧ SRel G W1 ∧ Rel G W1 d v ∧ biF W1.st .dict [d] = some (.dct ks ds) ∧ ∃ d' st', OM.mk m (.dct ks ds) W1.st = ok d' st' ∧ Lf G W1 d' st' Q := fun {σ Q H} h => by
    obtain ⟨W, φ, rfl, f, s, h⟩ := h
    have h1 : wpR ((evE C ee φ W.st).bind fun d st => (lift (biF st .dict [d]) st).bind fun d st => OM.mk m d st) (fun d st' => Lf G W d st' Q) (Xf G Ww σ W) := by
      have h0 : wpR ((evL C [ee] φ W.st).bind fun ds st => (lift (biF st .dict ds) st).bind fun d st => OM.mk m d st) (fun d st' => Lf G W d st' Q) (Xf G Ww σ W) := h
      have e1 : evL C [ee] φ W.st = (evE C ee φ W.st).bind fun d st => ok [d] st := rfl
      rw [e1] at h0
      cases e2 : evE C ee φ W.st with
      | none => rw [e2] at h0; exact h0
      | some o => rw [e2] at h0; cases o <;> exact h0
    refine RE.step f s (wpR_bind.mp h1) fun d W1 v q x1 f1 s1 r1 => ?_
    obtain ⟨d2, e2, q2⟩ := wpR_lift (wpR_bind.mp q)
    have hd : ∃ ks ds, d2 = .dct ks ds := by
      have e3 : (match listOf W1.st d with
        | some xs => match pairsOf xs with
          | some (ks, vs) => if xs.length ≤ 4096 then some (D.dct (fillK [] [] ks vs).1 (fillK [] [] ks vs).2) else none
          | none => none
        | none => match d with
          | .dct ks vs => some (D.dct ks vs)
          | _ => none) = some d2 := by cases d <;> exact e2
      split at e3
      · split at e3
        · split at e3
          · exact ⟨_, _, (Option.some.inj e3).symm⟩
          · cases e3
        · cases e3
      · split at e3
        · exact ⟨_, _, (Option.some.inj e3).symm⟩
        · cases e3
    obtain ⟨ks, ds, rfl⟩ := hd
    cases m with
    | true => exact ⟨W1, d, ks, ds, rfl, s1, r1, e2, _, _, rfl, (show Lf G W (.ref W1.st.next) (W1.st.new (.dct ks ds)) Q from q2).from x1⟩
    | false => exact ⟨W1, d, ks, ds, rfl, s1, r1, e2, _, _, rfl, (show Lf G W (.dct ks ds) W1.st Q from q2).from x1⟩
  refine PE.of (pe_may (t := fun σ H Q => RE G Ww C ee σ H fun v H1 => (∃ (a : Addr) (kvs : List (Key × V)), v = .ref a ∧ Rd H1 a (.dK kvs) ∧ ∀ p, H1 p = none → Q (.ref p) (upd H1 p (.dK kvs))) ∨
      ∃ (a : Addr) (ps : List Addr) (kvs : List (Key × V)), v = .ref a ∧ SqL X.K H1 a (ps.map V.ref) ∧ Paired (fun p kv => SqT X.K H1 p [kV kv.1, kv.2]) ps kvs ∧ ∀ p, H1 p = none → Q (.ref p) (upd H1 p (.dK (mergeK [] kvs)))) ?_) fun σ H Q h => ?_
  · refine ⟨fun pins s σ H Q I h => ?_⟩
    refine PyProof.Rows.Call_ (ld_blt I hg hm (by decide +kernel : bootBuiltins "dict" = some (.type "dict")) (PyProof.Rows.callWith_type1 (one_arg he I h (fun v s2 x H2 I2 r q => ?_) (star_of hn)) (star_of hn)))
    rcases q with ⟨a, kvs, rfl, hd, q⟩ | ⟨a, ps, kvs, rfl, hd, hp, q⟩
    · exact call_dictD pins s2 σ H2 [.ref a] [v] Q I2 (.cons r .nil) ⟨a, kvs, rfl, hd, q⟩
    · exact call_dictP hc pins s2 σ H2 [.ref a] [v] Q I2 (.cons r .nil) ⟨a, ps, kvs, rfl, hd, hp, q⟩
  · have h1 := key h
    obtain ⟨W, φ, rfl, f, s, h1⟩ := h1
    refine ⟨W, φ, rfl, f, s, wpR_mono h1 (fun d st l W' v a b c r => ?_) fun _ _ q => q⟩
    obtain ⟨W1, d, ks, ds, e0, s1, r1, e2, d', st', em, lf⟩ := l W' v a b c r
    rw [← e0]
    have lock : ∀ (p : Addr) (us : List V), W1.H p = none → ks.length = ds.length → (∀ k ∈ ks, TxtOk k) → RelL G W1 ds us → QLock Q (.ref p) (upd W1.H p (.dK (zipK ks us))) := fun p us hp ll hk rr => by
      cases m with
      | true =>
        cases em
        exact .inl (lf (W1.bornO p (.dct ks ds) (.dK (zipK ks us))) _ rfl (W1.bornO_ext s1 hp) (Wl.bornO_s s1 hp (.dct upd_same ll hk (rr.ext (W1.bornO_ext s1 hp)))) Wl.bornO_ref)
      | false =>
        cases em
        refine .inr ⟨p, _, upd_same, trivial, fun od => ?_⟩
        rw [upd_upd]
        exact lf (W1.lay p (.frz od (.dK (zipK ks us)))) _ rfl (W1.lay_ext hp) (Wl.lay_s s1 hp) (Wl.lay_dct s1 hp ll hk rr)
    by_cases hl : ∃ xs, listOf W1.st d = some xs
    · obtain ⟨xs, hl⟩ := hl
      obtain ⟨p, vs, rfl, hp, rx⟩ := list_at s1 r1 hl
      have e3 : (match pairsOf xs with
          | some (ks, vs) => if xs.length ≤ 4096 then some (D.dct (fillK [] [] ks vs).1 (fillK [] [] ks vs).2) else none
          | none => none) = some (D.dct ks ds) := by
        have e4 : biF W1.st .dict [d] = (match listOf W1.st d with
          | some xs => match pairsOf xs with
            | some (ks, vs) => if xs.length ≤ 4096 then some (D.dct (fillK [] [] ks vs).1 (fillK [] [] ks vs).2) else none
            | none => none
          | none => match d with
            | .dct ks vs => some (D.dct ks vs)
            | _ => none) := by cases d <;> rfl
        rw [e4, hl] at e2
        exact e2
      cases e5 : pairsOf xs with
      | none => rw [e5] at e3; cases e3
      | some kd =>
        obtain ⟨k1, d1⟩ := kd
        rw [e5] at e3
        have e6 : (if xs.length ≤ 4096 then some (D.dct (fillK [] [] k1 d1).1 (fillK [] [] k1 d1).2) else none) = some (D.dct ks ds) := e3
        by_cases hz : xs.length ≤ 4096
        · rw [if_pos hz] at e6
          obtain ⟨ps, us, ev, r2, l2, hk2, hpp, _⟩ := pairs_rel rx e5
          subst ev
          obtain ⟨ws, h1, h2, h3, h4⟩ := fill_rel (G := G) (W := W1) (ls := k1) (ks := []) (ds := []) (vs := []) rfl .nil (fun k hk => by cases hk) l2 r2 hk2
          cases e6
          refine .inr ⟨p, ps, zipK k1 us, rfl, .inl (.inl hp), by rw [hK]; exact hpp, fun q hq => ?_⟩
          have e7 : mergeK [] (zipK k1 us) = zipK (fillK [] [] k1 d1).1 ws := h4.symm
          rw [e7]
          exact lock q ws hq h1 h3 h2
        · rw [if_neg hz] at e6; cases e6
    · have hn : listOf W1.st d = none := by
        cases e9 : listOf W1.st d with
        | none => rfl
        | some xs => exact absurd ⟨xs, e9⟩ hl
      have e3 : (match d with
            | .dct ks vs => some (D.dct ks vs)
            | _ => none) = some (D.dct ks ds) := by
        have e4 : biF W1.st .dict [d] = (match listOf W1.st d with
          | some xs => match pairsOf xs with
            | some (ks, vs) => if xs.length ≤ 4096 then some (D.dct (fillK [] [] ks vs).1 (fillK [] [] ks vs).2) else none
            | none => none
          | none => match d with
            | .dct ks vs => some (D.dct ks vs)
            | _ => none) := by cases d <;> rfl
        rw [e4, hn] at e2
        exact e2
      cases r1 with
      | dct a l hk r =>
        cases e3
        obtain ⟨⟨od, a⟩, t⟩ := a
        exact .inl ⟨_, _, rfl, .inr ⟨od, a⟩, fun q hq => lock q _ hq l hk r⟩
      | _ => cases e3
end
end OM
namespace L2
open PySem PySem.Spec PyProof.Rows HT
section
variable {prog : Program} {w : World} {A : Around} {E : Value → Shared → Prop} {s : Shared}
theorem adjust_rev (n : Nat) : Builtin.Slice.sliceAdjust none none (-1) (n : Int) = ((n : Int) - 1, -1) := by
  unfold Builtin.Slice.sliceAdjust
  simp
theorem places_rev (n : Nat) : Builtin.Slice.slicePlaces ((n : Int) - 1) (-1) (-1) = n := by
  unfold Builtin.Slice.slicePlaces
  have h1 : ¬ ((-1 : Int) > 0) := by omega
  simp only [h1, if_false]
  split
  · have e : ((n : Int) - 1 - -1 - 1) / (- -1) + 1 = (n : Int) := by
      rw [show (- -1 : Int) = 1 by decide, Int.ediv_one]
      omega
    first
    | omega
    | (rw [e]; omega)
  · omega
theorem sliceApplied_rev {sl : Addr} {vs : Value} {n : Nat} {Q : Int × Int × Nat → Shared → Prop} (hs : s.heap.IsSliceOf sl .none .none vs) (ps : IsPart vs (some (-1)))
    (h : Q ((n : Int) - 1, -1, n) s) : wpAny (model prog w) A (Builtin.Slice.sliceApplied (.ref sl) (pure (n : Int))) Q E s := by
  obtain ⟨os, hos, hcs, hds⟩ := id hs
  unfold Builtin.Slice.sliceApplied Builtin.Slice.sliceFields
  refine wpAny_bind (wpAny_bind (wpAny_field hos hds (x := .none) rfl (wpAny_bind (wpAny_field hos hds (x := .none) rfl (wpAny_bind (wpAny_field hos hds (x := vs) rfl (wpAny_pure ?_)))))))
  refine wpAny_bind (slicePart_ ps ?_)
  show wpAny _ _ (if ((-1 : Int) == 0) = true then _ else _) _ _ s
  rw [if_neg (by decide)]
  refine wpAny_bind (slicePart_ .none (wpAny_bind (slicePart_ .none (wpAny_bind (wpAny_pure ?_)))))
  show wpAny _ _ (match Builtin.Slice.sliceAdjust none none (-1) (n : Int) with | (lo, hi) => pure (lo, (-1 : Int), Builtin.Slice.slicePlaces lo hi (-1))) _ _ s
  rw [adjust_rev n]
  show wpAny _ _ (pure ((n : Int) - 1, (-1 : Int), Builtin.Slice.slicePlaces ((n : Int) - 1) (-1) (-1))) _ _ s
  rw [places_rev]
  exact wpAny_pure h
theorem pick_rev (xs : Array Value) : ((List.range xs.size).filterMap fun (m : Nat) => xs[(((xs.size : Int) - 1) + (m : Int) * -1).toNat]?).toArray = xs.toList.reverse.toArray := by
  rw [← PySem.W.krv_all xs, ← List.filterMap_reverse, ← PySem.W.krv_range, List.filterMap_map]
  congr 1
  have go : ∀ l : List Nat, (∀ m ∈ l, m < xs.size) → l.filterMap (fun (m : Nat) => xs[(((xs.size : Int) - 1) + (m : Int) * -1).toNat]?) = l.filterMap ((fun x => xs[x]?) ∘ fun k => xs.size - 1 - k) := fun l => by
    induction l with
    | nil => intro _; rfl
    | cons m r ih =>
      intro h
      have hm := h m (List.mem_cons_self ..)
      have e : (((xs.size : Int) - 1) + (m : Int) * -1).toNat = xs.size - 1 - m := by omega
      rw [List.filterMap_cons, List.filterMap_cons, ih fun k hk => h k (List.mem_cons_of_mem _ hk)]
      have e2 : ((fun x => xs[x]?) ∘ fun k => xs.size - 1 - k) m = xs[xs.size - 1 - m]? := rfl
      rw [e2, e]
  exact go _ fun m hm => List.mem_range.mp hm
theorem getItem_tuple_rev {t sl : Addr} {items : Array Value} {vs : Value} {Q : Value → Shared → Prop} (ht : IsTup s.heap t items) (hs : s.heap.IsSliceOf sl .none .none vs) (ps : IsPart vs (some (-1)))
    (h : Q (.ref s.heap.objs.size) { s with heap := s.heap.push { cls := .type "tuple", data := .seq items.toList.reverse.toArray } })
    (hsz : items.size ≤ sizeLine) : wpAny (model prog w) A (getItem (.ref t) (.ref sl)) Q E s := by
  have htake : sizeOk (.seq items.toList.reverse.toArray) := by
    show items.toList.reverse.toArray.size ≤ sizeLine
    rw [List.size_toArray, List.length_reverse, Array.length_toList]
    exact hsz
  obtain ⟨os, hos, hcs, hds⟩ := id hs
  have hTs : s.TypeIs (.ref sl) "slice" := ⟨os, hos, hcs⟩
  unfold getItem
  try with_reducible refine wpAny_holding ?_
  first | refine wpAny_bind (wpAny_pure ?_) | skip
  refine wpAny_bind (wpAny_sequenceKey ht.typeIs (by decide) ?_)
  refine wpAny_bind (wpAny_callSpecial?_slot (name := Str.ofString "__getitem__") ht.typeIs PyProof.Rows.slot_tuple_getitem
    (wpAny_call_entry PyProof.Rows.slot_tuple_getitem ht.typeIs entry_tuple_getitem ?_ (args_tuple_getitem _ _)))
  show wpAny _ _ (Builtin.Tuple.tupleItemsOf (.ref t) >>= _) _ _ s
  refine wpAny_bind (tupleItemsOf_ ht ?_)
  refine wpAny_bind (wpAny_typeOf hTs ?_)
  rw [if_pos (by decide)]
  refine wpAny_bind (sliceApplied_rev hs ps ?_)
  have hno : ¬ (((((items.size : Int) - 1) : Int) == 0 && (-1 : Int) == 1 && items.size == items.size) = true) := by
    intro q
    rw [Bool.and_eq_true, Bool.and_eq_true] at q
    exact absurd q.1.2 (by decide)
  show wpAny _ _ (if ((((items.size : Int) - 1) : Int) == 0 && (-1 : Int) == 1 && items.size == items.size) = true then _ else _) _ _ s
  rw [if_neg hno, pick_rev]
  first
    | exact wpAny_bind (m := Builtin.Tuple.tupleExact _) (wpAny_newObj_type (wpAny_pure ⟨_, rfl, wpAny_pure h⟩) htake)
    | exact wpAny_bind (m := Builtin.Tuple.tupleExact _) (wpAny_newObj_type (wpAny_bind (wpAny_pure (wpAny_pure ⟨_, rfl, wpAny_pure h⟩))) htake)
    | exact wpAny_bind (wpAny_bind (m := Builtin.Tuple.tupleExact _) (wpAny_newObj_type (wpAny_pure (wpAny_pure ⟨_, rfl, wpAny_pure h⟩)) htake))
    | exact wpAny_bind (wpAny_bind (m := Builtin.Tuple.tupleExact _) (wpAny_newObj_type (wpAny_pure ⟨_, rfl, wpAny_pure h⟩) htake))
end
section
variable {X : Cx}
/-- xs[::-1] of a list or a tuple -/
def tRevS (K : PySem.W.Frag) (te : TE) : TE := fun σ H Q => te σ H fun x H1 => ∃ a xs, x = .ref a ∧ ((SqL K H1 a xs ∧ ∀ p, H1 p = none → Q (.ref p) (upd H1 p (.lst xs.reverse))) ∨ (SqT K H1 a xs ∧ ∀ p, H1 p = none → Q (.ref p) (upd H1 p (.tup xs.reverse))))
theorem pe_revS {e : Expr} {te : TE} {k : Nat} {p1 p2 p3 pos : Pos} (he : PE X e te) : PE X (.Subscript e (.Slice none none (some (.UnaryOp .USub (.Constant (.int 1) k p1) p2)) p3) pos) (tRevS X.K te) := by
  refine ⟨fun pins s σ H Q I h => ?_⟩
  refine Subscript_ (thn (he.run pins s σ H _ I h) fun v s1 ⟨x, H1, I1, r1, q1⟩ => ?_)
  obtain ⟨a, xs, ex, hq⟩ := q1
  subst ex
  cases r1
  have hst : PO X (some (.UnaryOp .USub (.Constant (.int 1) k p1) p2)) (tPart (tUn (rU fun i => .int (-i)) (tC (.int 1)))) := po_some (pe_un un_neg pe_int)
  refine wpAny_Slice (thn (po_none.run pins s1 σ H1 (fun o H2 => o = none ∧ H2 = H1) I1 ⟨rfl, rfl⟩) fun vl s2 ⟨l, H2, I2, pl, el, e2⟩ => ?_)
  subst el e2
  refine thn (po_none.run pins s2 σ H2 (fun o H3 => o = none ∧ H3 = H2) I2 ⟨rfl, rfl⟩) fun vu s3 ⟨u, H3, I3, pu, eu, e3⟩ => ?_
  subst eu e3
  refine thn (hst.run pins s3 σ H3 (fun o H4 => o = some (-1) ∧ H4 = H3) I3 ⟨1, rfl, -1, rfl, rfl, rfl⟩) fun vs s4 ⟨o, H4, I4, ps, eo, e4⟩ => ?_
  subst eo e4
  have I5 : Inv X pins σ H4 { s4 with heap := s4.heap.push { cls := .type "slice", data := .fields #[vl, vu, vs] } } := I4.kept (t' := s4.toks) fun b ob q => Heap.get?_push_of_some _ q
  show wpAny (model X.prog X.w) X.A (subscriptTail e (.Slice none none (some (.UnaryOp .USub (.Constant (.int 1) k p1) p2)) p3) (.ref a) (.ref s4.heap.objs.size)) (EP X pins σ Q) X.xe { s4 with heap := s4.heap.push { cls := .type "slice", data := .fields #[vl, vu, vs] } }
  rcases hq with ⟨hx, q⟩ | ⟨hx, q⟩
  · obtain ⟨its, r, ht, hz⟩ := I5.list hx
    have hlen := r.length
    refine tail_any (ops := [.ref a, .ref s4.heap.objs.size]) ht.isList.typeIs (PySem.slot_list_getitem.lookup) ?_ (by with_unfolding_all rfl)
    refine wpAny_getItem_list_slice ht.isList (Heap.IsSliceOf.new _ vl vu vs) pl pu ps (by decide) ?_ (by rw [List.size_toArray]; omega)
    rw [PySem.W.krv_pick]
    refine ⟨.ref _, _, I5.laid (t' := s4.toks) (o := .lst xs.reverse) (fun b ob q => Heap.get?_push_of_some _ q) (Nat.le_refl _) ?_, rfl, q _ (I5.hok.fresh (Nat.le_refl _))⟩
    exact ⟨by rw [List.length_reverse]; exact hz, _, 0, r.reverse, Heap.get?_push_size _ rfl⟩
  · obtain ⟨its, r, ht, hz⟩ := I5.tuple hx
    have hlen := r.length
    cases pl
    cases pu
    refine tail_any (ops := [.ref a, .ref s4.heap.objs.size]) ht.typeIs (PyProof.Rows.slot_tuple_getitem.lookup) ?_ (by with_unfolding_all rfl)
    refine getItem_tuple_rev ht (Heap.IsSliceOf.new _ .none .none vs) ps ?_ (by rw [List.size_toArray]; omega)
    refine ⟨.ref _, _, I5.laid (t' := s4.toks) (o := .tup xs.reverse) (fun b ob q => Heap.get?_push_of_some _ q) (Nat.le_refl _) ?_, rfl, q _ (I5.hok.fresh (Nat.le_refl _))⟩
    exact ⟨by rw [List.length_reverse]; exact hz, _, r.reverse, IsTup.new _ _⟩
end
end L2
namespace PySem.W
open PySem PySem.Calls PyProof.Rows PySem.Spec L2 HT
section
variable {prog : Program} {w : World} {A : Around} {E : Value → Shared → Prop} {s : Shared}
theorem collect_tup {l : Addr} {vs : List Value} {Q : List Value → Shared → Prop} (hl : IsTup s.heap l vs.toArray)
    (h : Q vs { s with heap := (s.heap.push (seqObj "list" #[] 0)).update s.heap.objs.size (Obj.mapSeq (· ++ vs.toArray)) }) (hsz : vs.length ≤ sizeLine) :
    wpAny (model prog w) A (collect (.ref l)) Q E s := by
  obtain ⟨o, ho, hc, n, hd⟩ := id hl
  unfold collect
  refine wpAny_bind (wpAny_runValue (codeAny_builtin entry_proto_collect' ?_))
  show wpAny _ _ (do again (.builtin "list.__iadd__" ⟨[← newList [], .ref l], []⟩)) _ _ s
  refine wpAny_bind (wpAny_newList (wpAny_pure ⟨Code.quiet_builtin _ (by decide +kernel), codeAny_builtin entry_list_iadd' ?_⟩))
  show wpAny _ _ (Builtin.List.listExtendWith (.ref s.heap.objs.size) (.ref l) (.ref s.heap.objs.size)) _ _ { s with heap := s.heap.push (seqObj "list" #[] 0) }
  unfold Builtin.List.listExtendWith
  have ho' : (s.heap.push (seqObj "list" #[] 0)).get? l = some o := Heap.get?_push_of_some _ ho
  refine wpAny_bind (wpAny_typeOf (T := "tuple") ⟨o, ho', hc⟩ ?_)
  have ht : (Value.type "tuple" == Value.type "tuple") = true := by rfl
  rw [if_pos (by rw [ht]; simp)]
  refine wpAny_bind (listItems_at ho' hd ?_)
  refine wpAny_bind (listItems_at (xs := #[]) (n := 0) (Heap.get?_push_size _ rfl) rfl ?_)
  rw [if_neg (by simp)]
  refine wpAny_bind (listUpdate_at (xs := #[]) (n := 0) (Heap.get?_push_size _ rfl) rfl ?_ (Nat.zero_le _) (by show (#[] ++ vs.toArray).size ≤ sizeLine + 1; simp only [Array.size_append, List.size_toArray, List.length_nil]; omega))
  refine wpAny_pure ?_
  show wpAny (model prog w) A (do
      let o ← load s.heap.objs.size
      match o.data with
      | .seq xs _ => pure xs.toList
      | _ => unsupported "internal:collect") Q E { s with heap := (s.heap.push (seqObj "list" #[] 0)).update s.heap.objs.size (Obj.mapSeq (· ++ vs.toArray)) }
  refine wpAny_bind (wpAny_load (get?_update_seq (Heap.get?_push_size _ rfl) _) ?_)
  show wpAny _ _ (pure ((#[] : Array Value) ++ vs.toArray).toList) Q E _
  rw [show ((#[] : Array Value) ++ vs.toArray).toList = vs by simp]
  exact wpAny_pure h
/-- sorted(t) of a tuple -/
theorem sortedT_of_sort {l : Addr} {vs : List Value} {Q : Value → Shared → Prop} (hl : IsTup s.heap l vs.toArray) (hL : vs.length ≤ sizeLine)
    (body : ∀ E' : Value → Shared → Prop, wpAny (model prog w) A.in1.in1 (Builtin.«list.sort» ⟨[.ref (s.heap.objs.size + 1)], []⟩) (fun f s' => f = .done (.ret .none) ∧ Q (.ref (s.heap.objs.size + 1)) s') E' { s with heap := copyHeap s.heap vs }) :
    wpAny (model prog w) A (call (.builtin "sorted") [.ref l]) Q E s := by
  refine call_function_entry_kw kind_sorted plain_sorted entry_sorted (args_sorted1 _) ?_
  unfold Builtin.«sorted»
  refine wpAny_bind (m := checkCount "sorted" 1 1 _) (wpAny_pure ?_)
  refine wpAny_bind (collect_tup hl ?_ hL)
  refine wpAny_bind (wpAny_newList ?_ hL)
  have hsz : ((s.heap.push (seqObj "list" #[] 0)).update s.heap.objs.size (Obj.mapSeq (· ++ vs.toArray))).objs.size = s.heap.objs.size + 1 := by
    rw [Heap.size_update, size_push']
  show wpAny _ _ _ _ _ { s with heap := copyHeap s.heap vs }
  rw [hsz]
  refine wpAny_bind (wpAny_holding (wpAny_call_entry_kw slot_list_sort ⟨_, copyHeap_at s.heap vs, rfl⟩ entry_list_sort ?body (args_list_sort _)))
  case body =>
    show wpAny (model prog w) A.in1.in1 (Builtin.«list.sort» ⟨[.ref (s.heap.objs.size + 1)], []⟩) _ _ _
    refine wpAny_mono (body _) (fun f s' hf => ?_) fun _ _ e => e
    obtain ⟨rfl, hq⟩ := hf
    exact ⟨_, rfl, wpAny_pure ⟨_, rfl, hq⟩⟩
theorem sortedT_data {β : Type} {vs : List Value} {bs : List β} {enc : β → PyData} {R : Value → β → Prop} {l : Addr} {Q : Value → Shared → Prop} (hl : IsTup s.heap l vs.toArray) (e : EachIs R vs bs) (er : EachIs (fun v b => ∃ as, Reads s.heap v (enc b) as) vs bs) (hal : AllAlike (bs.map enc)) (hk : Sortable (bs.map enc)) (hL : bs.length ≤ sizeLine)
    (hu : ∀ b, b ∈ bs → A.units + 2 + (enc b).depth < cLine) (h : ∀ out, out.length = bs.length → EachIs R out (bs.mergeSort (dataLe false enc)) → Q (.ref (s.heap.objs.size + 1)) { s with heap := sortedAll s.heap vs (List.toArray out) }) :
    wpAny (model prog w) A (call (.builtin "sorted") [.ref l]) Q E s := by
  have er' : EachIs (fun v b => ∃ as, Reads (sortingHeap (copyHeap s.heap vs) (s.heap.objs.size + 1) vs) v (enc b) as) vs bs := er.mono fun _ _ ⟨as, r⟩ => ⟨as, PyProof.Rows.Reads.keeps (fun _ _ => sorting_copy_old) r⟩
  refine sortedT_of_sort hl (by rw [e.length]; exact hL) fun _ => list_sort_vals (s := { s with heap := copyHeap s.heap vs }) (copyHeap_at s.heap vs) (SortsAt.data (s := { s with heap := sortingHeap (copyHeap s.heap vs) (s.heap.objs.size + 1) vs }) (each_map (R := fun v d => ∃ as, Reads (sortingHeap (copyHeap s.heap vs) (s.heap.objs.size + 1) vs) v d as) enc er') hal hk (bound_map hu)) (by rw [e.length]; exact hL) ⟨rfl, h _ (by rw [sortVals_length false rfl]; exact e.length) (sortVals_data false e er' hal)⟩
end
end PySem.W
namespace OM
open PySem PySem.Spec PyProof.Rows L2
theorem plainL_all : ∀ {xs : List D}, plainL xs = true → ∀ x ∈ xs, plain x = true
  | [], _, _, h => by cases h
  | y :: ys, hp, x, h => by
    have hp' : plain y = true ∧ plainL ys = true := by simpa [plainL] using hp
    rcases List.mem_cons.mp h with rfl | h
    · exact hp'.1
    · exact plainL_all hp'.2 x h
theorem depL_all : ∀ {xs : List D} {n : Nat}, depL xs ≤ n → ∀ x ∈ xs, dep x ≤ n
  | [], _, _, _, h => by cases h
  | y :: ys, n, hp, x, h => by
    have hp' : max (dep y) (depL ys) ≤ n := hp
    rcases List.mem_cons.mp h with rfl | h
    · omega
    · exact depL_all (by omega) x h
section
variable {X : Cx} {G : GX}
/-- the value that stands for a datum -/
def VD (G : GX) (W : Wl) : Value → D → Prop := fun v d => ∃ u, Rel G W d u ∧ RelV u v
theorem each_vd {W : Wl} : ∀ {ds : List D} {vs : List V} {us : List Value}, RelL G W ds vs → Vals vs us → PySem.W.EachIs (VD G W) us ds
  | _, _, _, .nil, .nil => .nil
  | _, _, _, .cons h r, .cons h2 r2 => .cons ⟨_, h, h2⟩ (each_vd r r2)
theorem vd_each {W : Wl} : ∀ {ds : List D} {us : List Value}, PySem.W.EachIs (VD G W) us ds → ∃ vs, RelL G W ds vs ∧ Vals vs us
  | _, _, .nil => ⟨[], .nil, .nil⟩
  | _, _, .cons ⟨u, h1, h2⟩ t => by
    obtain ⟨vs, r1, r2⟩ := vd_each t
    exact ⟨u :: vs, .cons h1 r1, .cons h2 r2⟩
theorem sortD_ok {xs ys : List D} (h : sortD xs = some ys) : plainL xs = true ∧ PySem.W.AllAlike (xs.map toPy) ∧ PySem.W.Sortable (xs.map toPy) ∧ depL xs ≤ 32 ∧ ys = xs.mergeSort (PySem.W.dataLe false toPy) := by
  unfold sortD at h
  split at h
  · rename_i hc
    obtain ⟨h1, h2, h3, h4⟩ := hc
    simp only [List.all_eq_true] at h2
    have pl := plainL_all h1
    refine ⟨h1, fun d hd d' hd' => ?_, ?_, h4, ?_⟩
    · obtain ⟨b, hb, rfl⟩ := List.mem_map.mp hd
      obtain ⟨b', hb', rfl⟩ := List.mem_map.mp hd'
      rw [alk_py b b' (pl b hb) (pl b' hb')]
      exact h2 b hb b' hb'
    · unfold srtB at h3
      rw [Bool.or_eq_true] at h3
      rcases h3 with h3 | h3
      · refine .inl fun d hd => ?_
        obtain ⟨b, hb, rfl⟩ := List.mem_map.mp hd
        have q := List.all_eq_true.mp h3 b hb
        cases b with
        | tup l => cases l with
          | nil => cases q
          | cons x r => exact ⟨toPy x, toPyL r, by simp only [toPy, toPyL]⟩
        | _ => cases q
      · refine .inr fun d hd => ?_
        obtain ⟨b, hb, rfl⟩ := List.mem_map.mp hd
        have q := List.all_eq_true.mp h3 b hb
        have p := pl b hb
        cases b <;> first | (cases q; done) | (cases p; done) | exact ⟨by simp [toPy], by simp [toPy]⟩
    · cases h
      have e := List.map_mergeSort (r := fun a b => !dlt b a) (s := PySem.W.dataLe false toPy) (f := id) (l := xs) (fun a ha b hb => by
        show (!dlt b a) = (!PySem.W.dataLt (toPy b) (toPy a))
        rw [dlt_py b a (pl b hb) (pl a ha) (h2 b hb a ha)])
      rw [List.map_id, List.map_id] at e
      exact e
  · cases h
theorem sortT_uniq {xs ys : List Str} (h : ys.Perm xs) (hs : sortedS ys = true) : ys = sortT xs := by
  have step : ∀ (l : List Str) (p : Str), risingS p l = true → (p :: l).Pairwise (fun a b => leT a b = true) := fun l => by
    induction l with
    | nil => exact fun p _ => by simp
    | cons x r ih =>
      intro p hp
      have hp' : (!ltCps x.cps.toList p.cps.toList && risingS x r) = true := hp
      rw [Bool.and_eq_true] at hp'
      have q := ih x hp'.2
      have e : leT p x = true := by
        have h1 := hp'.1
        rw [ltCps_eq] at h1
        unfold leT
        simpa using h1
      refine List.pairwise_cons.mpr ⟨fun z hz => ?_, q⟩
      rcases List.mem_cons.mp hz with rfl | hz
      · exact e
      · exact leT_trans _ _ _ e ((List.pairwise_cons.mp q).1 z hz)
  have s1 : ys.Pairwise (fun a b => leT a b = true) := by
    cases ys with
    | nil => exact List.Pairwise.nil
    | cons x r => exact step r x hs
  have s2 : (sortT xs).Pairwise (fun a b => leT a b = true) := List.pairwise_mergeSort (le := leT) leT_trans leT_total xs
  exact (h.trans (List.mergeSort_perm xs leT).symm).eq_of_pairwise (fun a b _ _ h1 h2 => leT_anti a b h1 h2) s1 s2
theorem zip_fst {ks : List Str} : ∀ {vs : List V}, ks.length = vs.length → (zipK ks vs).map (·.1) = ks.map Sum.inr := by
  unfold zipK
  induction ks with
  | nil => exact fun _ => rfl
  | cons k ks ih =>
    intro vs h
    cases vs with
    | nil => cases h
    | cons v vs =>
      have q := ih (vs := vs) (by simpa using h)
      show Sum.inr k :: List.map (fun x => x.fst) ((List.map Sum.inr ks).zip vs) = Sum.inr k :: List.map Sum.inr ks
      rw [q]
theorem bi_sorted (hK : X.K = G.K) (hc : X.calm = true) (hu : X.A.units + 64 < cLine) (m : Bool) : CallR X (.builtin "sorted") (rBi G m .sorted) := by
  intro pins s σ H xs us Q I r h
  obtain ⟨W, ds, d, d', st', rfl, hs, rd, e, em, lf⟩ := h
  obtain ⟨a, rfl⟩ : ∃ a, ds = [a] := by
    match ds with
    | [] => cases e
    | [a] => exact ⟨a, rfl⟩
    | a :: b :: r => cases a <;> cases e
  cases rd with
  | cons ra rn =>
    cases rn
    have e' : (match dctOf W.st a with
    | some (ks, _) => if ks.length < 64 then some (.lst ((sortT ks).map .str)) else none
    | none => match seqOf W.st a with
      | some xs => if xs.length ≤ line then ((sortD xs).orElse fun _ => if xs.length < 2 then some xs else none).map .lst else none
      | none => none) = some d := e
    cases h1 : dctOf W.st a with
    | some kv =>
      obtain ⟨ks, ds⟩ := kv
      rw [h1] at e'
      dsimp only at e'
      split at e'
      · rename_i h64
        cases e'
        obtain ⟨p, vs, rfl, hp, l, hk, rr⟩ := dct_at hs ra h1
        refine call_sortedD hc pins s σ W.H _ us Q I r ⟨p, _, ks, rfl, hp, ?_, h64, fun ys q hy hz hq => ?_⟩
        · exact zip_fst (l.trans rr.length)
        · rw [sortT_uniq hy hz]
          exact lf.mk em hs (strs_rl fun k hk' => hk k ((List.mergeSort_perm ks leT).mem_iff.mp hk')) q hq
      · cases e'
    | none =>
      rw [h1] at e'
      dsimp only at e'
      cases h2 : seqOf W.st a with
      | none => rw [h2] at e'; cases e'
      | some xs =>
        rw [h2] at e'
        dsimp only at e'
        split at e'
        · rename_i hl
          cases h3 : sortD xs with
          | none =>
            rw [h3] at e'
            have e2 : (if xs.length < 2 then some xs else none).map D.lst = some d := e'
            split at e2
            · rename_i h2l
              cases e2
              obtain ⟨p, vs, rfl, rr, hp⟩ := seqOf_k hs ra h2
              rw [Vals.ref1 r]
              have body : ∀ its : List Value, Vals vs its → ∀ out : List Value, out.Perm its → EP X pins σ Q (.ref (s.heap.objs.size + 1)) { s with heap := sortedAll s.heap its (List.toArray out) } := fun its rv out hperm => by
                have hl2 : its.length < 2 := by rw [← rv.length, ← rr.length]; exact h2l
                have eo : out = its := by
                  match its, hl2 with
                  | [], _ => exact List.perm_nil.mp hperm
                  | [a], _ => exact List.perm_singleton.mp hperm
                  | _ :: _ :: _, h => simp only [List.length_cons] at h; omega
                subst eo
                obtain ⟨ep, he'⟩ := PyProof.Rows.sortedAll_at s.heap out out.toArray
                have hlen : vs.length ≤ sizeLine := by rw [← rr.length, ← line_eq]; exact hl
                exact ⟨.ref _, upd W.H (s.heap.objs.size + 1) (.lst vs), I.laid (t' := s.toks) (fun _ _ => PyProof.Rows.sortedAll_old) (Nat.le_succ _) ⟨hlen, out, ep, rv, he'⟩, rfl, lf.mk em hs rr _ (I.hok.fresh (Nat.le_succ _))⟩
              rcases hp with hp | hp
              · obtain ⟨its, rv, hl', hz⟩ := I.list (by rw [hK]; exact hp)
                have hl2 : ¬ 2 ≤ its.length := by rw [← rv.length, ← rr.length]; omega
                exact Srt.sorted_any hl'.isList (by rw [← rv.length]; exact hz) (fun h => absurd h hl2) (body its rv)
              · obtain ⟨its, rv, hl', hz⟩ := I.tuple (by rw [hK]; exact hp)
                have hl2 : ¬ 2 ≤ its.length := by rw [← rv.length, ← rr.length]; omega
                refine PySem.W.sortedT_of_sort hl' (by rw [← rv.length]; exact hz) fun _ => ?_
                exact Srt.list_sort_any (s := { s with heap := PySem.W.copyHeap s.heap its }) (PySem.W.copyHeap_at s.heap its) (by rw [← rv.length]; exact hz) (fun h => absurd h hl2) fun out hperm => ⟨rfl, body its rv out hperm⟩
            · cases e2
          | some ys =>
            rw [h3] at e'
            cases e'
            obtain ⟨p, vs, rfl, rr, hp⟩ := seqOf_k hs ra h2
            obtain ⟨q1, q2, q3, q4, rfl⟩ := sortD_ok h3
            rw [Vals.ref1 r]
            have body : ∀ its : List Value, Vals vs its → ∀ out : List Value, out.length = xs.length → PySem.W.EachIs (VD G W) out (xs.mergeSort (PySem.W.dataLe false toPy)) → EP X pins σ Q (.ref (s.heap.objs.size + 1)) { s with heap := sortedAll s.heap its (List.toArray out) } := fun its rv out ho1 ho2 => by
              obtain ⟨vs', r1, r2⟩ := vd_each ho2
              obtain ⟨ep, he'⟩ := PyProof.Rows.sortedAll_at s.heap its out.toArray
              have hlen : vs'.length ≤ sizeLine := by rw [← r1.length, List.length_mergeSort, ← line_eq]; exact hl
              exact ⟨.ref _, upd W.H (s.heap.objs.size + 1) (.lst vs'), I.laid (t' := s.toks) (fun _ _ => PyProof.Rows.sortedAll_old) (Nat.le_succ _) ⟨hlen, out, ep, r2, he'⟩, rfl, lf.mk em hs r1 _ (I.hok.fresh (Nat.le_succ _))⟩
            have hu2 : ∀ b ∈ xs, X.A.units + 2 + (toPy b).depth < cLine := fun b hb => by
              rw [dep_py]
              have := depL_all q4 b hb
              omega
            rcases hp with hp | hp
            · obtain ⟨its, rv, hl', hz⟩ := I.list (by rw [hK]; exact hp)
              obtain ⟨as, hr⟩ := Dp.readsAll I (toPyL xs) vs its (by rw [hK]; exact (rr.dp q1).1) rv
              rw [toPyL_map] at hr
              exact PySem.W.sorted_data (R := VD G W) (enc := toPy) (bs := xs) hl'.isList (each_vd rr rv) (PySem.W.readsAll_each toPy hr) q2 q3 (by rw [← line_eq]; exact hl) hu2 (body its rv)
            · obtain ⟨its, rv, hl', hz⟩ := I.tuple (by rw [hK]; exact hp)
              obtain ⟨as, hr⟩ := Dp.readsAll I (toPyL xs) vs its (by rw [hK]; exact (rr.dp q1).1) rv
              rw [toPyL_map] at hr
              exact PySem.W.sortedT_data (R := VD G W) (enc := toPy) (bs := xs) hl' (each_vd rr rv) (PySem.W.readsAll_each toPy hr) q2 q3 (by rw [← line_eq]; exact hl) hu2 (body its rv)
        · cases e'
end
end OM
namespace OM
open PySem PySem.Spec PyProof.Rows L2
section
variable {X : Cx} {G : GX} {Ww : WX} {C : Calls}
theorem wpR_mk {m : Bool} {xs : List D} {st : Store} {k : D → Store → Prop} {x : Xc → Store → Prop} (h : wpR (OM.mk m (.lst xs) st) k x) : ∃ d' st', OM.mk m (.lst xs) st = ok d' st' ∧ k d' st' := by
  cases m <;> exact ⟨_, _, rfl, h⟩
theorem RelL.rev {W : Wl} {ds : List D} {vs : List V} (r : RelL G W ds vs) : RelL G W ds.reverse vs.reverse := by
  induction ds generalizing vs with
  | nil => cases r; exact .nil
  | cons d ds ih =>
    cases r with
    | cons h r =>
      rw [List.reverse_cons, List.reverse_cons]
      exact (ih r).append (.cons h .nil)
theorem se_rev {m : Bool} {e : Expr} {x1 : Ex} {k : Nat} {p1 p2 p3 pos : Pos} (hK : X.K = G.K) (h1 : PE X e (RE G Ww C x1)) : PE X (.Subscript e (.Slice none none (some (.UnaryOp .USub (.Constant (.int 1) k p1) p2)) p3) pos) (RE G Ww C (.rev m x1)) := by
  refine PE.of (pe_revS h1) fun σ H Q h => ?_
  obtain ⟨W, φ, rfl, f, s, h⟩ := h
  have h' : wpR ((evE C x1 φ W.st).bind fun x st => match x with
    | .tup xs => OM.mk m (.tup xs.reverse) st
    | x => match listOf st x with
      | some xs => OM.mk m (.lst xs.reverse) st
      | none => none) (fun d st' => Lf G W d st' Q) (Xf G Ww σ W) := h
  refine RE.step f s (wpR_bind.mp h') fun x W1 v1 q1 y1 f1 s1 r1 => ?_
  have lists : ∀ xs, listOf W1.st x = some xs → wpR (OM.mk m (.lst xs.reverse) W1.st) (fun d st' => Lf G W d st' Q) (Xf G Ww σ W) → ∃ a xs, v1 = .ref a ∧ ((SqL X.K W1.H a xs ∧ ∀ p, W1.H p = none → Q (.ref p) (upd W1.H p (.lst xs.reverse))) ∨ (SqT X.K W1.H a xs ∧ ∀ p, W1.H p = none → Q (.ref p) (upd W1.H p (.tup xs.reverse)))) := fun xs h2 q1 => by
    obtain ⟨d', st', em, lf⟩ := wpR_mk q1
    obtain ⟨p, vs, rfl, hp, rr⟩ := list_at s1 r1 h2
    exact ⟨p, vs, rfl, .inl ⟨.inl (.inl hp), fun q hq => (lf.from y1).mk em s1 rr.rev q hq⟩⟩
  cases x with
  | tup xs =>
    cases r1 with
    | tup p rr =>
      cases m with
      | true => exact (show False from q1).elim
      | false =>
        have lf : Lf G W (.tup xs.reverse) W1.st Q := q1
        exact ⟨_, _, rfl, .inr ⟨by rw [hK]; exact p.sq, fun q hq => (lf.from y1).tup s1 rr.rev q hq⟩⟩
  | lst xs => exact lists xs rfl q1
  | ref n =>
    cases h2 : listOf W1.st (.ref n) with
    | none =>
      have q1' : wpR (match listOf W1.st (.ref n) with
        | some xs => OM.mk m (.lst xs.reverse) W1.st
        | none => none) (fun d st' => Lf G W d st' Q) (Xf G Ww σ W) := q1
      rw [h2] at q1'
      exact (show False from q1').elim
    | some xs =>
      have q1' : wpR (match listOf W1.st (.ref n) with
        | some xs => OM.mk m (.lst xs.reverse) W1.st
        | none => none) (fun d st' => Lf G W d st' Q) (Xf G Ww σ W) := q1
      rw [h2] at q1'
      exact lists xs h2 q1'
  | _ => exact (show False from q1).elim
/-- list(e.items()) of a dict, whoever may change it -/
def rItemsR : V → Hp → VK → Prop := fun x H Q => ∃ (d : Addr) (kvs : List (Key × V)), x = .ref d ∧ Rd H d (.dK kvs) ∧
  ∀ (H' : Hp) (p : Addr) (ts : List Addr), (∀ b o, H b = some o → H' b = some o) → H p = none → (∀ t ∈ ts, H t = none) → p ∉ ts → H' p = some (.lst (ts.map V.ref)) → Paired (fun (t : Addr) (q : Key × V) => H' t = some (.tup [kV q.1, q.2])) ts kvs → Q (.ref p) H'
theorem pe_itemsR {e : Expr} {te : TE} {p apos cpos pos : Pos} (hc : X.calm = true) (he : PE X e te) (hg : Gl X "list") (hm : X.mg "list" = none) (hbase : attributeBase e "items" X.env (eval e X.env) = eval e X.env) (hline : (apos.endLine == cpos.line) = true) :
    PE X (.Call (.Name "list" p) [.Call (.Attribute e "items" apos) [] [] cpos] [] pos) (fun σ H Q => te σ H fun x H1 => rItemsR x H1 Q) := by
  have hs : starEach [.Call (.Attribute e "items" apos) [] [] cpos] X.env = (false, eval (.Call (.Attribute e "items" apos) [] [] cpos) X.env) :: starEach [] X.env := rfl
  refine ⟨fun pins s σ H Q I hq => ?_⟩
  refine wpAny_Call_Name_kw (ld_blt I hg hm (by decide +kernel : bootBuiltins "list" = some (.type "list")) ?_)
  refine PyProof.Rows.callWith_type1 ?_ hs rfl
  rw [hs]
  show wpAny _ _ (spliced ((false, eval (.Call (.Attribute e "items" apos) [] [] cpos) X.env) :: backTo pos (starEach [] X.env))) _ _ s
  refine Calls.spliced_cons ?_
  refine wpAny_Call_method (T := "dict") (id := "dict.items") hbase rfl hline F.plainAttrs_dict F.slot_dict_items F.type_dict_items (thn (he.run pins s σ H _ I hq) fun u s1 ⟨x, H1, I1, rx, d, kvs, ex, hd, q⟩ => ?_)
  subst ex
  obtain rfl : u = Value.ref d := rx
  obtain ⟨hz, hs0, vs, kv, hdo⟩ := dk_rd I1.hok hd
  obtain ⟨ep, hat⟩ := hdo.dictAt
  have I2 : Inv X pins σ H1 { s1 with heap := s1.heap.push { cls := .type "dict_items", data := .fields #[.ref d] } } := I1.kept (t' := s1.toks) fun b ob q => Heap.get?_push_of_some _ q
  refine ⟨hdo.typeIs, hdo.mapOf.noDict, ?_⟩
  show wpAny _ _ (callWith cpos (.builtin "dict.items") [.ref d] [] []) _ X.xe s1
  refine method_meetsIn F.slot_dict_items F.entry_dict_items rfl (PySem.evalArgs_none ⟨rfl, hdo.typeIs, F.args_dict_items_1 _, _, meets_dict_items (mixKind X.prog X.w) d hs0, ⟨vs, hdo⟩, ?_⟩)
  refine Calls.spliced_nil ?_
  have lk : kvs.length = vs.length := Paired.length kv
  refine PySem.W.kdx_call (knd := mixKind X.prog X.w) (kvs := vs) (ep := ep) (I1.ok.hd hc) ⟨_, Heap.get?_push_size _ rfl, rfl, rfl⟩ (hat.push _) (by omega) fun h' tk acc c as hk hS hl hG hacc => ?_
  obtain ⟨H', k1, k2, k3, k4, k5, k6, J⟩ := LiI.items_laid (tk := tk) I2 hz kv hk hS hl hG hacc
  exact ⟨.ref _, H', J, rfl, q H' _ as k1 k2 k3 k4 k5 k6⟩
theorem zipK_at {ks : List Str} {vs : List V} {i : Nat} {q : Key × V} (h : (zipK ks vs)[i]? = some q) : ∃ k v, ks[i]? = some k ∧ vs[i]? = some v ∧ q = (Sum.inr k, v) := by
  unfold zipK at h
  rw [List.getElem?_zip_eq_some, List.getElem?_map] at h
  obtain ⟨h1, h2⟩ := h
  cases hk : ks[i]? with
  | none => rw [hk] at h1; cases h1
  | some k =>
    rw [hk] at h1
    have e : Sum.inr k = q.1 := Option.some.inj h1
    exact ⟨k, q.2, rfl, h2, by rw [e]⟩
theorem se_litems {m : Bool} {e : Expr} {x1 : Ex} {p apos cpos pos : Pos} (hc : X.calm = true) (h1 : PE X e (RE G Ww C x1)) (hg : Gl X "list") (hm : X.mg "list" = none) (hbase : attributeBase e "items" X.env (eval e X.env) = eval e X.env) (hline : (apos.endLine == cpos.line) = true) :
    PE X (.Call (.Name "list" p) [.Call (.Attribute e "items" apos) [] [] cpos] [] pos) (RE G Ww C (.litems m x1)) := by
  refine PE.of (pe_itemsR hc h1 hg hm hbase hline) fun σ H Q h => ?_
  obtain ⟨W, φ, rfl, f, s, h⟩ := h
  have h' : wpR ((evE C x1 φ W.st).bind fun x st => match dctOf st x with
    | some (ks, vs) => OM.mk m (.lst (List.zipWith (fun k v => .tup [.str k, v]) ks vs)) st
    | none => none) (fun d st' => Lf G W d st' Q) (Xf G Ww σ W) := h
  refine RE.step f s (wpR_bind.mp h') fun x W1 v1 q1 y1 f1 s1 r1 => ?_
  cases h2 : dctOf W1.st x with
  | none => rw [h2] at q1; exact (show False from q1).elim
  | some kv =>
    obtain ⟨ks, ds⟩ := kv
    rw [h2] at q1
    obtain ⟨d', st', em, lf⟩ := wpR_mk q1
    obtain ⟨p, vs, rfl, hp, l, hk, rr⟩ := dct_at s1 r1 h2
    refine ⟨p, _, rfl, hp, fun H' a ts k1 k2 k3 k4 k5 k6 => ?_⟩
    have lt : ts.length = (zipK ks vs).length := Paired.length k6
    let Hm : Hp := fun b => if b = a then none else H' b
    have eH : H' = upd Hm a (.lst (ts.map V.ref)) := by
      funext b
      by_cases hb : b = a
      · rw [hb, k5, upd_same]
      · rw [upd_ne hb]
        show H' b = if b = a then none else H' b
        rw [if_neg hb]
    have km : ∀ b o, W1.H b = some o → Hm b = some o := fun b o e => by
      show (if b = a then none else H' b) = some o
      rw [if_neg (fun z => by rw [z, k2] at e; cases e)]
      exact k1 b o e
    have kn : Hm a = none := if_pos rfl
    let Wm : Wl := { W1 with H := Hm }
    have xm : Ext W1 Wm := ⟨⟨Nat.le_refl _, fun _ _ => rfl, fun b o e t _ => ⟨km b o e, t⟩⟩, fun b o c e => ⟨c, km b o e⟩⟩
    have sm : SRel G Wm := by
      refine ⟨s1.lt, s1.inj, fun n u e => (s1.ob n u e).ext xm.toExt0 ?_, fun b c => ?_, s1.bsep, tab_of s1 fun b o e _ => km b o e⟩
      · have q := s1.ob n u e
        have : ∃ o, W1.H (W1.al n) = some o := by
          cases q with
          | lst h _ => exact ⟨_, h⟩
          | dct h _ _ _ => exact ⟨_, h⟩
          | obj h _ _ _ => exact ⟨_, h⟩
        obtain ⟨o, ho⟩ := this
        exact (km _ _ ho).trans ho.symm
      · obtain ⟨o, ho, po⟩ := s1.bok b c
        exact ⟨o, km _ _ ho, po⟩
    have rl : RelL G Wm (List.zipWith (fun k v => D.tup [.str k, v]) ks ds) (ts.map V.ref) := by
      refine RelL.of ?_ fun i d v e1 e2 => ?_
      · rw [List.length_zipWith, List.length_map, lt]
        unfold zipK
        rw [List.length_zip, List.length_map, rr.length]
      · rw [List.getElem?_map] at e2
        cases et : ts[i]? with
        | none => rw [et] at e2; cases e2
        | some t =>
          rw [et] at e2
          have e2' : V.ref t = v := Option.some.inj e2
          subst e2'
          obtain ⟨q, eq, hq⟩ := LiI.paired_get k6 et
          obtain ⟨k, v, g1, g2, rfl⟩ := zipK_at eq
          rw [List.getElem?_zipWith, g1] at e1
          cases hd : ds[i]? with
          | none => rw [hd] at e1; cases e1
          | some d0 =>
            rw [hd] at e1
            have e1' : D.tup [.str k, d0] = d := Option.some.inj e1
            subst e1'
            obtain ⟨v', g3, g4⟩ := rr.get hd
            rw [g2] at g3
            cases g3
            have hmem : t ∈ ts := List.mem_of_getElem? et
            have ht : Hm t = some (.tup [kV (Sum.inr k), v]) := by
              show (if t = a then none else H' t) = _
              rw [if_neg (fun z : t = a => k4 (by rw [← z]; exact hmem))]
              exact hq
            refine .tup (.inl ⟨.inl ht, fun tt => Wl.notT s1 (k3 t hmem) tt⟩) (.cons (.str k (hk k (List.mem_of_getElem? g1))) (.cons (g4.ext xm) .nil))
    rw [eH]
    exact Lf.mk (W := Wm) em ((lf.from y1).from xm) sm rl a kn
end
end OM
namespace OM
open PySem PySem.Spec PySem.Calls PyProof.Rows L2
section
variable {prog : Program} {w : World} {A : Around} {E : Value → Shared → Prop} {s : Shared}
/-- the first n items one by one, the rest in a new list -/
theorem star_list {l : Addr} {items : Array Value} {n : Nat} {Q : List Value → Shared → Prop} (hl : s.heap.IsList l items) (hh : A.handled = none) (hn : n ≤ items.size) (hz : items.size ≤ sizeLine)
    (h : ∀ (h₂ : Heap) (tk : Nat), (∀ b o, s.heap.get? b = some o → h₂.get? b = some o) → Q (items.toList.take n ++ [.ref h₂.objs.size]) { s with heap := h₂.push (seqObj "list" (items.toList.drop n).toArray 0), toks := tk }) : wpAny (model prog w) A (unpackItems (.ref l) (n + 1) (some n)) Q E s := by
  have hlt : l ≠ s.heap.objs.size := by obtain ⟨o, ho, _⟩ := hl; exact Nat.ne_of_lt (Heap.lt_size ho)
  unfold unpackItems
  refine wpAny_bind ?_
  unfold notIterableAtAll
  refine wpAny_bind (wpAny_specialOf hl.typeIs slot_list_iter.lookup ?_)
  refine wpAny_pure ?_
  simp only [Bool.false_eq_true, if_false]
  refine wpAny_bind (wpAny_holding (wpAny_pyIter_list hl ?_))
  refine wpAny_bind (wpAny_holding (PySem.W.kun_draw hlt n 0 _ _ ⟨_, Heap.get?_push_size _ rfl, rfl, rfl⟩ (hl.push _) (by omega) fun h₁ hit₁ hs₁ => ?_))
  have hl₁ : h₁.IsList l items := (hl.push _).extBut hs₁.extBut hlt
  rw [Nat.zero_add] at hit₁
  have hit₁' := hit₁
  obtain ⟨oi, hoi, _⟩ := hit₁'
  have hl₁' := hl₁
  obtain ⟨ol, hol, _⟩ := hl₁'
  rw [List.drop_zero]
  have hfl : (items.toList.take n).length = n := by rw [List.length_take, Array.length_toList]; omega
  rw [if_neg (show ¬ ((items.toList.take n).length < n) by rw [hfl]; omega)]
  refine wpAny_bind (wpAny_holding (PySem.W.kun_collect (s := { s with heap := h₁ }) (T := "list_iterator") (.inr (.inr (.inl rfl))) (Walks.list (A := A.in1) hh s.heap.objs.size l hlt items) (fun j u st => st.1.typeIs) (k := n) hn ⟨hit₁, hl₁⟩ (Heap.lt_size hoi) (Heap.lt_size hol) (fun h₂ tk hk => ?_) hz))
  show wpAny _ _ (if (items.toList.drop n).length < n + 1 - 1 - n then _ else _) _ _ _
  have e0 : n + 1 - 1 - n = 0 := by omega
  rw [if_neg (by omega)]
  show wpAny _ _ (newList ((items.toList.drop n).take ((items.toList.drop n).length - (n + 1 - 1 - n))) >>= fun d => pure (items.toList.take n ++ [d] ++ (items.toList.drop n).drop ((items.toList.drop n).length - (n + 1 - 1 - n)))) _ _ _
  rw [e0, Nat.sub_zero, List.take_length, List.drop_length]
  refine wpAny_bind (wpAny_newList (wpAny_pure ?_) (by rw [List.length_drop, Array.length_toList]; omega))
  rw [List.append_nil]
  exact h _ tk fun b o e => hk b o (Nat.ne_of_lt (Heap.lt_size e)) (hs₁.extBut b o (Nat.ne_of_lt (Heap.lt_size e)) (Heap.get?_push_of_some _ e))
theorem star_tuple {l : Addr} {items : Array Value} {n : Nat} {Q : List Value → Shared → Prop} (hl : IsTup s.heap l items) (hh : A.handled = none) (hn : n ≤ items.size) (hz : items.size ≤ sizeLine)
    (h : ∀ (h₂ : Heap) (tk : Nat), (∀ b o, s.heap.get? b = some o → h₂.get? b = some o) → Q (items.toList.take n ++ [.ref h₂.objs.size]) { s with heap := h₂.push (seqObj "list" (items.toList.drop n).toArray 0), toks := tk }) : wpAny (model prog w) A (unpackItems (.ref l) (n + 1) (some n)) Q E s := by
  have hlt : l ≠ s.heap.objs.size := by obtain ⟨o, ho, _⟩ := hl; exact Nat.ne_of_lt (Heap.lt_size ho)
  unfold unpackItems
  refine wpAny_bind ?_
  unfold notIterableAtAll
  refine wpAny_bind (wpAny_specialOf hl.typeIs slot_tuple_iter.lookup ?_)
  refine wpAny_pure ?_
  simp only [Bool.false_eq_true, if_false]
  refine wpAny_bind (wpAny_holding (iter_tuple hl ?_))
  refine wpAny_bind (wpAny_holding (draw_tuple hlt n 0 _ _ ⟨_, Heap.get?_push_size _ rfl, rfl, rfl⟩ (hl.push _) (by omega) fun h₁ hit₁ hs₁ => ?_))
  have hl₁ : IsTup h₁ l items := (hl.push _).extBut hs₁.extBut hlt
  rw [Nat.zero_add] at hit₁
  have hit₁' := hit₁
  obtain ⟨oi, hoi, _⟩ := hit₁'
  have hl₁' := hl₁
  obtain ⟨ol, hol, _⟩ := hl₁'
  rw [List.drop_zero]
  have hfl : (items.toList.take n).length = n := by rw [List.length_take, Array.length_toList]; omega
  rw [if_neg (show ¬ ((items.toList.take n).length < n) by rw [hfl]; omega)]
  refine wpAny_bind (wpAny_holding (PySem.W.kun_collect (s := { s with heap := h₁ }) (T := "tuple_iterator") (.inr (.inr (.inr rfl))) (Walks.tuple (A := A.in1) hh s.heap.objs.size l hlt items) (fun j u st => st.1.typeIs) (k := n) hn ⟨hit₁, hl₁⟩ (Heap.lt_size hoi) (Heap.lt_size hol) (fun h₂ tk hk => ?_) hz))
  show wpAny _ _ (if (items.toList.drop n).length < n + 1 - 1 - n then _ else _) _ _ _
  have e0 : n + 1 - 1 - n = 0 := by omega
  rw [if_neg (by omega)]
  show wpAny _ _ (newList ((items.toList.drop n).take ((items.toList.drop n).length - (n + 1 - 1 - n))) >>= fun d => pure (items.toList.take n ++ [d] ++ (items.toList.drop n).drop ((items.toList.drop n).length - (n + 1 - 1 - n)))) _ _ _
  rw [e0, Nat.sub_zero, List.take_length, List.drop_length]
  refine wpAny_bind (wpAny_newList (wpAny_pure ?_) (by rw [List.length_drop, Array.length_toList]; omega))
  rw [List.append_nil]
  exact h _ tk fun b o e => hk b o (Nat.ne_of_lt (Heap.lt_size e)) (hs₁.extBut b o (Nat.ne_of_lt (Heap.lt_size e)) (Heap.get?_push_of_some _ e))
end
section
variable {X : Cx} {G : GX} {Ww : WX} {C : Calls}
mutual
theorem bindT_st (st st' : Store) : ∀ (t : Tg) (d : D) (φ : Fr), bindT st t d φ = bindT st' t d φ
  | .nm _, _, _ => rfl
  | .tp ts, d, φ => by
    cases d with
    | tup xs => exact bindTs_st st st' ts xs φ
    | lst xs => exact bindTs_st st st' ts xs φ
    | _ => rfl
theorem bindTs_st (st st' : Store) : ∀ (ts : List Tg) (ds : List D) (φ : Fr), bindTs st ts ds φ = bindTs st' ts ds φ
  | [], [], _ => rfl
  | [], _ :: _, _ => rfl
  | _ :: _, [], _ => rfl
  | t :: ts, d :: ds, φ => by
    unfold bindTs
    rw [bindT_st st st' t d φ]
    cases bindT st' t d φ with
    | none => rfl
    | some φ' => exact bindTs_st st st' ts ds φ'
end
theorem evL_len {C : Calls} {φ : Fr} : ∀ {es : List Ex} {st s : Store} {ds : List D}, evL C es φ st = some (.ok ds s) → ds.length = es.length
  | [], _, _, _, h => by cases h; rfl
  | e :: es, st, s, ds, h => by
    have h' : (evE C e φ st).bind (fun d st => (evL C es φ st).bind fun ds st => ok (d :: ds) st) = some (.ok ds s) := h
    cases e1 : evE C e φ st with
    | none => rw [e1] at h'; cases h'
    | some o =>
      rw [e1] at h'
      cases o with
      | exc x s1 => cases h'
      | ok d s1 =>
        have h2 : (evL C es φ s1).bind (fun ds st => ok (d :: ds) st) = some (.ok ds s) := h'
        cases e2 : evL C es φ s1 with
        | none => rw [e2] at h2; cases h2
        | some o2 =>
          rw [e2] at h2
          cases o2 with
          | exc x s2 => cases h2
          | ok ds2 s2 =>
            have h3 : some (Out.ok (d :: ds2) s2) = some (.ok ds s) := h2
            cases h3
            rw [List.length_cons, List.length_cons, evL_len e2]
theorem setAll_bind {st : Store} : ∀ {is : List Nat} {ds : List D} {φ : Fr}, setAll is ds φ = bindTs st (is.map .nm) ds φ
  | [], [], _ => rfl
  | [], _ :: _, _ => rfl
  | _ :: _, [], _ => rfl
  | i :: is, d :: ds, φ => setAll_bind (is := is) (ds := ds) (φ := φ.set i (some d))
/-- a, .., *r = a list or a tuple -/
def gStar (K : PySem.W.Frag) (n : Nat) (t : TGs) : TG := fun v σ H Q => ∃ a xs, v = .ref a ∧ (SqL K H a xs ∨ SqT K H a xs) ∧ n ≤ xs.length ∧ ∀ p, H p = none → t (xs.take n ++ [.ref p]) σ (upd H p (.lst (xs.drop n))) Q
theorem each_star {es : List Expr} {t : Expr} {p : Pos} {env : Env} (h : es.all noStar = true) (ht : noStar t = true) :
    (assignEach (es ++ [.Starred t p]) env).map (·.2) = (assignEach (es ++ [t]) env).map (·.2) ∧ (assignEach (es ++ [.Starred t p]) env).length = es.length + 1 ∧ (assignEach (es ++ [.Starred t p]) env).findIdx? (·.1) = some es.length := by
  induction es with
  | nil =>
    refine ⟨?_, rfl, rfl⟩
    cases t <;> first | rfl | cases ht
  | cons e es ih =>
    rw [List.all_cons, Bool.and_eq_true] at h
    obtain ⟨i1, i2, i3⟩ := ih h.2
    have he : ∀ r, assignEach (e :: r) env = (false, assign e env) :: assignEach r env := fun r => by
      have h1 := h.1
      cases e <;> first | rfl | cases h1
    rw [List.cons_append, List.cons_append, he, he]
    refine ⟨?_, ?_, ?_⟩
    · rw [List.map_cons, List.map_cons, i1]
    · rw [List.length_cons, i2, List.length_cons]
    · rw [List.findIdx?_cons, i3]
      rfl
theorem pg_star {es : List Expr} {t : Expr} {p pos : Pos} {k : Nat} {T : TGs} (hc : X.calm = true) (h : es.all noStar = true) (ht : noStar t = true) (hg : PGs X (es ++ [t]) T) : PG X (.Tuple (es ++ [.Starred t p]) k pos) (gStar X.K es.length T) := by
  refine ⟨fun pins s σ H v u Q I r hw => ?_⟩
  obtain ⟨a, xs, e1, hq, hl, hw⟩ := hw
  subst e1
  cases r
  obtain ⟨i1, i2, i3⟩ := each_star (env := X.env) (p := p) h ht
  rw [PyProof.Rows.assign_Tuple]
  refine wpAny_bind (wpAny_standAt ?_)
  unfold unpack
  rw [i1, i2, i3]
  have fin : ∀ (its : List Value) (s0 : Shared), Vals xs its → xs.length ≤ sizeLine → s0.heap = s.heap → Inv X pins σ H s0 → ∀ (h₂ : Heap) (tk : Nat), (∀ b o, s0.heap.get? b = some o → h₂.get? b = some o) →
      wpAny (model X.prog X.w) X.A (assignInOrder ((assignEach (es ++ [t]) X.env).map (·.2)) (its.take es.length ++ [.ref h₂.objs.size])) (fun _ s' => ∃ σ' H', Inv X pins σ' H' s' ∧ Q σ' H') X.xe { s0 with heap := h₂.push (seqObj "list" (its.drop es.length).toArray 0), toks := tk } := fun its s0 rv hz _ I0 h₂ tk hk => by
    have I2 : Inv X pins σ H { s0 with heap := h₂, toks := tk } := I0.kept (t' := tk) hk
    have hp : H h₂.objs.size = none := I2.hok.fresh (Nat.le_refl _)
    have I3 : Inv X pins σ (upd H h₂.objs.size (.lst (xs.drop es.length))) { s0 with heap := h₂.push (seqObj "list" (its.drop es.length).toArray 0), toks := tk } :=
      I2.laid (t' := tk) (fun b u q => Heap.get?_push_of_some _ q) (Nat.le_refl _) ⟨by rw [List.length_drop]; omega, its.drop es.length, 0, rv.drop _, Heap.get?_push_size _ rfl⟩
    exact hg.run pins _ σ _ _ _ Q I3 ((rv.take _).append (.cons (show RelV (V.ref h₂.objs.size) (Value.ref h₂.objs.size) from rfl) .nil)) (hw _ hp)
  rcases hq with hq | hq
  · obtain ⟨its, rv, ht', hz⟩ := I.list hq
    have hlen : xs.length = its.length := rv.length
    refine wpAny_bind (wpAny_holding (star_list ht'.isList (I.ok.hd hc) (by simpa using (by omega : es.length ≤ its.length)) (by simpa using (by omega : its.length ≤ sizeLine)) fun h₂ tk hk => ?_))
    exact fin its _ rv hz rfl (I.tok _) h₂ tk hk
  · obtain ⟨its, rv, ht', hz⟩ := I.tuple hq
    have hlen : xs.length = its.length := rv.length
    refine wpAny_bind (wpAny_holding (star_tuple ht' (I.ok.hd hc) (by simpa using (by omega : es.length ≤ its.length)) (by simpa using (by omega : its.length ≤ sizeLine)) fun h₂ tk hk => ?_))
    exact fin its _ rv hz rfl (I.tok _) h₂ tk hk
theorem sm_star {es : List Expr} {t e : Expr} {p pos spos : Pos} {k : Nat} {is : List Nat} {r : Nat} {ex : Ex} (hK : X.K = G.K) (hc : X.calm = true) (h : es.all noStar = true) (ht : noStar t = true) (hl : es.length = is.length) (hg : PGs X (es ++ [t]) (RGs G (is.map .nm ++ [.nm r]))) (he : PE X e (RE G Ww C ex))
    (hs : swapsWithSole [.Tuple (es ++ [.Starred t p]) k pos] e spos.line X.env = pure false) (hw : swappedStores [.Tuple (es ++ [.Starred t p]) k pos] e X.env = pure none) :
    PS X (.Assign [.Tuple (es ++ [.Starred t p]) k pos] e spos) (RS G Ww C (.star is r ex)) := by
  refine PS.of (ps_asg he (pg_star hc h ht hg) hs hw rfl) fun D σ H h => ?_
  obtain ⟨W, φ, rfl, f, s, h⟩ := h
  refine RE.step f s (wpS_toS f h) fun d W1 v q x1 f1 s1 r1 => ?_
  have q' : wpS G Ww W D (match starB W1.st is r d φ with
    | some φ' => some (SO.nx φ' W1.st)
    | none => none) := q
  cases e0 : starB W1.st is r d φ with
  | none => rw [e0] at q'; exact q'.elim
  | some φ' =>
    rw [e0] at q'
    unfold starB at e0
    cases e1 : seqOf W1.st d with
    | none => rw [e1] at e0; cases e0
    | some xs =>
      rw [e1] at e0
      dsimp only at e0
      split at e0
      · rename_i hle
        obtain ⟨a, vs, rfl, rr, hq⟩ := seqOf_k s1 r1 e1
        refine ⟨a, vs, rfl, by rw [hK]; exact hq, by rw [hl, ← rr.length]; exact hle, fun b hb => ?_⟩
        rw [hl]
        refine ⟨W1.lay b (.lst (vs.drop is.length)), φ, xs.take is.length ++ [.lst (xs.drop is.length)], φ', rfl, f1.ext (W1.lay_ext hb), Wl.lay_s s1 hb, ((rr.take _).ext (W1.lay_ext hb)).append (.cons (Wl.lay_lst s1 hb (rr.drop _)) .nil), ?_, fun σ' f' _ => ?_⟩
        · rw [← e0]
          exact bindTs_st _ _ _ _ _
        · exact (show ∀ W2 σ2, W2.st = W1.st → Ext W W2 → SRel G W2 → FRel G W2 φ' σ2 → D.nx σ2 W2.H from q') _ σ' rfl (x1.trans (W1.lay_ext hb)) (Wl.lay_s s1 hb) f'
      · cases e0
/-- a, b = x, y, laid as a tuple: one of the names is no plain local -/
theorem par_as {is : List Nat} {xs : List Ex} (hl : xs.length ≤ line) {φ : Fr} {st : Store} : evS C (.par is xs) φ st = evS C (.asg (.tp (is.map .nm)) (.tup xs)) φ st := by
  show (evL C xs φ st).toS φ _ = ((evL C xs φ st).bind _).toS φ _
  cases e : evL C xs φ st with
  | none => rfl
  | some o =>
    cases o with
    | exc x s => rfl
    | ok ds s =>
      have hd : ds.length ≤ line := by rw [evL_len e]; exact hl
      show (match setAll is ds φ with
        | some φ' => some (SO.nx φ' s)
        | none => none) = ((if ds.length ≤ line then ok (D.tup ds) s else none : Res D)).toS φ _
      rw [if_pos hd, setAll_bind (st := s)]
      rfl
theorem sm_par2 {is : List Nat} {xs : List Ex} {st : Stmt} (hl : xs.length ≤ line) (h : PS X st (RS G Ww C (.asg (.tp (is.map .nm)) (.tup xs)))) : PS X st (RS G Ww C (.par is xs)) := by
  refine PS.of h fun D σ H q => ?_
  obtain ⟨W, φ, e, f, s, q⟩ := q
  exact ⟨W, φ, e, f, s, by rw [← par_as hl]; exact q⟩
/-- no exchange of plain locals -/
theorem swap_none {x y : Str} {px py p p2 : Pos} {k k2 : Nat} {a b : Expr} {env : Env} (h : (env.kindOf x == some .local) = false ∨ (env.kindOf y == some .local) = false) : swappedStores [.Tuple [.Name x px, .Name y py] k p] (.Tuple [a, b] k2 p2) env = pure none := by
  unfold swappedStores
  dsimp only
  split
  · rfl
  · split
    · rfl
    · rw [if_pos]
      rw [Bool.or_eq_true]
      left
      rcases h with h | h
      · simp only [List.filterMap_cons, h, Bool.false_and, List.filterMap_nil, Bool.false_eq_true, if_false]
        split <;> simp
      · simp only [List.filterMap_cons, h, Bool.false_and, List.filterMap_nil, Bool.false_eq_true, if_false]
        split <;> simp
def splitStar : List Expr → Option (List Expr × Expr × Pos)
  | [] => none
  | [.Starred t p] => some ([], t, p)
  | e :: es => match splitStar es with
    | some (r, t, p) => some (e :: r, t, p)
    | none => none
theorem splitStar_ok : ∀ {ts es : List Expr} {t : Expr} {p : Pos}, splitStar ts = some (es, t, p) → ts = es ++ [.Starred t p]
  | [], _, _, _, h => by cases h
  | [e], es, t, p, h => by
    cases e with
    | Starred t' p' => cases h; rfl
    | _ => simp [splitStar] at h
  | e :: f :: r, es, t, p, h => by
    have h' : (match splitStar (f :: r) with
      | some (r, t, p) => some (e :: r, t, p)
      | none => none) = some (es, t, p) := by
      rw [← h]
      cases e <;> rfl
    cases q : splitStar (f :: r) with
    | none => rw [q] at h'; cases h'
    | some o =>
      obtain ⟨r', t', p'⟩ := o
      rw [q] at h'
      cases h'
      rw [splitStar_ok q] <;> rfl
end
end OM
namespace OM
open PySem PySem.Spec PySem.Calls PyProof.Rows L2
section
variable {prog : Program} {w : World} {A : Around} {E : Value → Shared → Prop} {s : Shared} {K : PySem.W.Frag} {x C L f : Addr} {h₀ : Heap} {m : Str → Option Value} {ox : Obj} {od : Option Obj} {b tb : Value}
/-- a special method that object has -/
theorem ifBound_B {M : Model} {name : Str} {id : String} {args : List Value} {Q : Option Value → Shared → Prop} (X : K.In s.heap) (I : PySem.W.InstAt s.heap x ox C od) (hs : PySem.W.findIn K (.ref C) name = some (some (.builtin id))) (S : Slot "object" name id)
    (h : wpAny M A (call (.builtin id) (.ref x :: args)) (fun v => Q (some v)) E s) : wpAny M A (callSpecialIfBound? (.ref x) name args) Q E s := by
  simp only [callSpecialIfBound?, bindSpecialIfBound?]
  refine wpAny_holding (wpAny_bind (wpAny_bind (wpAny_bind (I.type.here ((PySem.W.looks_findIn X hs).here ?_)))))
  simp only [S.bind]
  refine wpAny_bind (wpAny_askSetting (wpAny_ite ?_))
  have fin : wpAny M A (call (.builtin id) ([.ref x] ++ args) >>= fun v => pure (some v)) Q E s := wpAny_bind (wpAny_mono h (fun v s' h' => wpAny_pure h') fun _ _ h' => h')
  split
  · exact wpAny_bind (wpAny_pure (wpAny_pure fin))
  · exact wpAny_tryCatch (wpAny_bind (wpAny_pure (wpAny_pure fin)))
/-- x != b, by the own __eq__ -/
theorem ne_own {Q : Value → Shared → Prop} (hu : A.units + 1 < cLine) (FF : PyProof.Rows.Fr h₀ L s.heap m) (X₀ : K.In h₀) (I : PySem.W.InstAt s.heap x ox C od) (hb : PySem.W.Looks (model prog w) s.heap (typeOf b) tb) (hn : PySem.W.notFirst K C tb = true)
    (hne : PySem.W.findIn K (.ref C) "__ne__" = some (some (.builtin "object.__ne__"))) (hs : PySem.W.findIn K (.ref C) "__eq__" = some (some (.ref f))) (hf : PySem.W.isFn K (.ref f) = true) (hp : PySem.W.plainOver K C = true)
    (h : wpAny (model prog w) A.in1 (call (.ref f) [.ref x, b]) (fun v s' => ∃ k, v = .bool k ∧ Q (.bool (!k)) s') E s) : wpAny (model prog w) A (richCompare .NotEq (.ref x) b) Q E s := by
  have X := X₀.keeps FF.keep
  have S := PySem.F.cmp_object.ne
  obtain ⟨cd, hc, ho⟩ := PySem.W.any_some hp
  have ne0 : cd.mro.isEmpty = false := by cases q : cd.mro with | nil => rw [q] at ho; cases ho | cons _ _ => rfl
  have sub : PySem.W.Looks (model prog w) s.heap (isInstance (.ref x) (.type "object")) true := I.type.andThen (PySem.W.looks_mroIn X (by unfold PySem.W.mroIn; rw [hc, Option.bind_some, if_neg (by rw [ne0]; decide), PySem.W.only_has ho]))
  have entry : ∀ {R : PySem.Fin → Shared → Prop}, (wpAny (model prog w) A.in1 (call (.ref f) [.ref x, b]) (fun v s' => ∃ k, v = .bool k ∧ R (.done (.ret (.bool (!k)))) s') E s) → wpAny (model prog w) A.in1 (Builtin.«object.__ne__» ⟨[.ref x, b], []⟩) R E s := fun {R} hc => by
    unfold Builtin.«object.__ne__»
    repeat (first
      | with_reducible refine wpAny_cRoomFor (show A.in1.units < cLine from hu) ?_
      | (refine wpAny_bind (m := callSpecialIfBound? (.ref x) (Str.ofString "__eq__") [b])
          (PySem.W.ifBound_K X I hs hf (wpAny_mono hc (fun r s' hr => by
            obtain ⟨k, rfl, hq⟩ := hr
            repeat (first | exact hq | exact wpAny_pure hq | exact wpAny_truthy_bool hq | (refine wpAny_bind (m := truthy (.bool _)) (wpAny_truthy_bool ?_)) | wp_step)) fun _ _ e => e)))
      | wp_step)
  have one : wpAny (model prog w) A (tryCompare (.ref x) "__ne__" b) (fun r s' => ∃ v, r = some v ∧ Q v s') E s := by
    unfold tryCompare
    refine wpAny_bind (ifBound_B X I hne S (wpAny_call (codeAny_call_builtin S.plain PySem.F.cmpEntry_ne (@PySem.W.check_slot (model prog w) _ _ s "object.__ne__" "object" "__ne__" (.ref x) [b] [] _ PySem.F.cmpKind_ne PySem.F.cmpSplit_ne sub (PySem.F.cmpArgs_ne _ _) (entry (wpAny_mono h (fun v s' hv => ?_) fun _ _ e => e))))))
    obtain ⟨k, rfl, hq⟩ := hv
    first | exact ⟨k, rfl, wpAny_pure ⟨_, rfl, hq⟩⟩ | exact ⟨k, rfl, wpAny_pure (wpAny_pure ⟨_, rfl, hq⟩)⟩
  unfold richCompare
  simp only [oneThing_ref]
  refine wpAny_holding (wpAny_bind (wpAny_cRoomFor (Nat.lt_of_succ_lt hu) ?_))
  refine wpAny_bind (I.type.here (wpAny_bind (hb.here ?_)))
  split
  · rename_i q
    have e : PySem.W.subIn K tb (.ref C) = some false := by
      rcases Bool.or_eq_true_iff.mp hn with e | e
      · rw [beq_iff_eq.mp e] at q; simp at q
      · exact beq_iff_eq.mp e
    refine wpAny_bind ((PySem.W.looks_subIn X e).here ?_)
    simp only [Bool.false_eq_true, if_false]
    refine wpAny_bind (wpAny_mono one (fun r s' z => ?_) fun _ _ e => e)
    obtain ⟨v, rfl, hq⟩ := z
    exact wpAny_pure hq
  · refine wpAny_bind (wpAny_pure ?_)
    simp only [Bool.false_eq_true, if_false]
    refine wpAny_bind (wpAny_mono one (fun r s' z => ?_) fun _ _ e => e)
    obtain ⟨v, rfl, hq⟩ := z
    exact wpAny_pure hq
end
section
variable {X : Cx} {G : GX} {Ww : WX} {C : Calls}
/-- a def, called further in -/
theorem run_at {CX : CXT} {k : Nat} {f : Addr} {fd : FuncData} {ps : List Str} {sp : Sp} {E : L2.St → XK} {A : Around} {pins : List (Addr × Obj)} {σ : L2.St} {H : Hp} {s : Shared} {Q : VK} {us : List Value} {vs : List V} (hA : A.frames = X.A.frames) (F : FnOk X.prog X.w X.K X.mg X.base CX k f fd ps sp) (hr : Room k A) (hb : Binds X.K fd ps []) (hx : PassesAt CX X σ (E σ))
    (I : L2.Inv X pins σ H s) (r : Vals vs us) (h : sp vs H Q (E σ)) : wpAny (model X.prog X.w) A (call (.ref f) us) (EP X pins σ Q) X.xe s := by
  have hl : us.length = ps.length := by rw [← r.length]; exact F.len _ _ _ _ h
  have b := hb s us I.kIn (by rw [List.append_nil]; exact hl)
  rw [List.append_nil] at b
  have e0 : Env0 X.prog X.w X.K X.mg X.base A X.stack s H := by
    have e := I.env0
    exact ⟨by rw [hA]; exact e.frames, e.mod, e.bs, e.bsz, e.funs, e.frf, e.hok, e.bare⟩
  refine wpAny_call (codeAny_mono (F.run A X.stack s H ⟨us, []⟩ us vs Q (E σ) hr e0 b r h) fun r s' hq => ?_)
  cases r with
  | error e => exact hx pins H s e s' I hq
  | ok fl =>
    cases fl with
    | ret u => exact I.after hq
    | next => exact False.elim hq
    | brk => exact False.elim hq
    | cont => exact False.elim hq
def rEqo (G : GX) (C : Calls) (p neg : Bool) (t : List (Str × Nat)) : R2 := fun x y H Q => ∃ W a b, W.H = H ∧ SRel G W ∧ Rel G W a x ∧ Rel G W b y ∧ wpR (eqoD C p neg t a b W.st) (fun d st' => Lf G W d st' Q) (fun _ _ => False)
def opN (neg : Bool) : CmpOp := if neg then .NotEq else .Eq
/-- the classes that have their own == -/
def EqOk (G : GX) (C : Calls) (X : Cx) (t : List (Str × Nat)) (sg : Nat → Sig) : Prop := ∀ c f, t.lookup c = some f → Cls X.K (G.cl c) ∧ Meth X.K (G.cl c) "__eq__" (G.fns f) ∧ PySem.W.findIn X.K (.ref (G.cl c)) "__ne__" = some (some (.builtin "object.__ne__")) ∧ FnC G C X f (sg f) ∧ (sg f).full = true
theorem wpR_noXb {m : Res D} {g : D → Store → Res D} {k : D → Store → Prop} {x x' : Xc → Store → Prop} (h : wpR ((noX m).bind g) k x') : wpR m (fun d st => wpR (g d st) k x') x := by
  cases m with
  | none => exact h
  | some o =>
    cases o with
    | ok d st => exact h
    | exc y st => exact h.elim
theorem op_eqo {p neg : Bool} {t : List (Str × Nat)} {sgs : Nat → Sig} (hK : X.K = G.K) (hu : X.A.units + 65 < cLine) (M : EqOk G C X t sgs) : OpR X (compareOp (opN neg)) (rEqo G C p neg t) := by
  intro pins s σ H x y v u Q I rx ry h
  obtain ⟨W, a, b, rfl, sr, ra, rb, h⟩ := h
  unfold eqoD at h
  cases ea : objOf W.st a with
  | none => rw [ea] at h; exact h.elim
  | some oa =>
    obtain ⟨c, fn, fv⟩ := oa
    cases eb : objOf W.st b with
    | none => rw [ea, eb] at h; exact h.elim
    | some ob =>
      obtain ⟨c', fn', fv'⟩ := ob
      rw [ea, eb] at h
      dsimp only at h
      by_cases hc : c = c'
      · subst hc
        rw [if_pos rfl] at h
        cases el : t.lookup c with
        | none => rw [el] at h; exact h.elim
        | some f =>
          rw [el] at h
          dsimp only at h
          obtain ⟨hcl, hmt, hne, hF, hfull⟩ := M c f el
          obtain ⟨pa, dx, vs, rfl, hi, _, _⟩ := obj_at sr ra ea
          obtain ⟨pb, dy, ws, rfl, hj, _, _⟩ := obj_at sr rb eb
          obtain rfl : v = Value.ref pa := rx
          obtain rfl : u = Value.ref pb := ry
          obtain ⟨mA, J, _⟩ := ins_get I.hok hi
          obtain ⟨mB, J', _⟩ := ins_get I.hok hj
          obtain ⟨od, J, _⟩ := J.look
          obtain ⟨od', J', _⟩ := J'.look
          obtain ⟨m, hFr⟩ := I.fr
          obtain ⟨fd, ps, k, hFn, hr, hk, hb⟩ := hF.ex
          have hb' : Binds X.K fd ps [] := by rw [hK]; exact hb.all hfull
          have sp0 : spK G (callP p (C f)) [V.ref pa, V.ref pb] W.H (fun v H' => ∃ k, v = .bl k ∧ Q (.bl (k != neg)) H') (WE (fun _ _ _ _ => False) σ) := by
            refine ⟨W, [a, b], rfl, sr, .cons ra (.cons rb .nil), ?_⟩
            refine wpR_mono (wpR_noXb (x := fun _ _ => False) h) (fun d st' q => ?_) fun _ _ q => q.elim
            cases d with
            | bl k =>
              have q' : Lf G W (.bl (k != neg)) st' Q := q
              intro W' v h1 h2 h3 r
              cases r
              exact ⟨k, rfl, q' W' _ h1 h2 h3 (.bl _)⟩
            | _ => exact (show False from q).elim
          have sp1 := spP (p := p) sp0
          have go : ∀ (A : Around), A.frames = X.A.frames → Room k A → wpAny (model X.prog X.w) A (call (.ref (G.fns f)) [.ref pa, .ref pb]) (EP X pins σ (fun v H' => ∃ k, v = .bl k ∧ Q (.bl (k != neg)) H')) X.xe s := fun A hA hRm =>
            run_at (vs := [V.ref pa, V.ref pb]) (E := WE (fun _ _ _ _ => False)) hA hFn hRm hb' (passAt takes0 σ) I (.cons rfl (.cons rfl .nil)) sp1
          cases neg with
          | false =>
            show wpAny (model X.prog X.w) X.A (richCompare .Eq (.ref pa) (.ref pb)) (EP X pins σ Q) X.xe s
            refine PySem.W.cmp_K (op := .Eq) (tb := .ref (G.cl c)) (by omega) hFr I.ok.mod.kin J J'.type (by simp [PySem.W.notFirst]) hmt.at_ hmt.fn ?_
            refine wpAny_mono (go X.A rfl (hr.mono (Nat.le_succ k))) (fun v s' z => ?_) fun _ _ e => e
            obtain ⟨x', H', I', rx', k', rfl, q⟩ := z
            obtain rfl : v = Value.bool k' := rx'
            have e : (k' != false) = k' := by cases k' <;> rfl
            rw [e] at q
            exact ⟨.bl k', H', I', rfl, q⟩
          | true =>
            show wpAny (model X.prog X.w) X.A (richCompare .NotEq (.ref pa) (.ref pb)) (EP X pins σ Q) X.xe s
            refine ne_own (tb := .ref (G.cl c)) (by omega) hFr I.ok.mod.kin J J'.type (by simp [PySem.W.notFirst]) hne hmt.at_ hmt.fn hcl.po ?_
            refine wpAny_mono (go X.A.in1 rfl hr.in1) (fun v s' z => ?_) fun _ _ e => e
            obtain ⟨x', H', I', rx', k', rfl, q⟩ := z
            obtain rfl : v = Value.bool k' := rx'
            have e : (k' != true) = !k' := by cases k' <;> rfl
            rw [e] at q
            exact ⟨k', rfl, .bl (!k'), H', I', rfl, q⟩
      · rw [if_neg hc] at h
        exact h.elim
theorem eqoD_bl {p neg : Bool} {t : List (Str × Nat)} {x y d : D} {st st' : Store} (h : eqoD C p neg t x y st = some (.ok d st')) : ∃ k, d = .bl k := by
  unfold eqoD at h
  split at h
  · split at h
    · split at h
      · cases e : noX (callP p (C _) [x, y] st) with
        | none => rw [e] at h; cases h
        | some o =>
          rw [e] at h
          cases o with
          | exc _ _ => cases h
          | ok d0 st0 =>
            cases d0 with
            | bl k => cases h; exact ⟨_, rfl⟩
            | _ => cases h
      · cases h
    · cases h
  · cases h
theorem eqoD_exc {p neg : Bool} {t : List (Str × Nat)} {x y : D} {e : Xc} {st st' : Store} (h : eqoD C p neg t x y st = some (.exc e st')) : False := by
  unfold eqoD at h
  split at h
  · split at h
    · split at h
      · cases e : noX (callP p (C _) [x, y] st) with
        | none => rw [e] at h; cases h
        | some o =>
          rw [e] at h
          cases o with
          | exc _ _ =>
            unfold noX at e
            split at e
            · cases e
            · rename_i hn
              exact hn _ _ e
          | ok d0 st0 => cases d0 <;> cases h
      · cases h
    · cases h
  · cases h
theorem wpR_eqo {p neg : Bool} {t : List (Str × Nat)} {x y : D} {st : Store} {k k' : D → Store → Prop} {z : Xc → Store → Prop} (h : wpR (eqoD C p neg t x y st) k z) (i : ∀ b st, k (.bl b) st → k' (.bl b) st) : wpR (eqoD C p neg t x y st) k' (fun _ _ => False) := by
  cases e : eqoD C p neg t x y st with
  | none => rw [e] at h; exact h
  | some o =>
    cases o with
    | ok d st' =>
      rw [e] at h
      obtain ⟨b, rfl⟩ := eqoD_bl e
      exact i b st' h
    | exc y st' => exact (eqoD_exc e).elim
theorem se_eqo {p neg : Bool} {t : List (Str × Nat)} {sgs : Nat → Sig} {a b : Expr} {ea eb : Ex} {pos : Pos} (hK : X.K = G.K) (hu : X.A.units + 65 < cLine) (M : EqOk G C X t sgs) (hm : behindInMarks (opN neg) b = false) (ha : PE X a (RE G Ww C ea)) (hb : PE X b (RE G Ww C eb)) : PE X (.Compare a [opN neg] [b] pos) (RE G Ww C (.eqo p neg t ea eb)) := by
  refine PE.of (pe_cmpR (op_eqo (p := p) hK hu M) ha hb hm) fun σ H Q h => ?_
  obtain ⟨W, φ, rfl, f, s, h⟩ := h
  refine RE.step f s (wpR_bind.mp h) fun x W1 v1 q1 x1 f1 s1 r1 => ?_
  refine RE.step f1 s1 (Xf.from x1 (wpR_bind.mp q1)) fun y W2 v2 q2 x2 f2 s2 r2 => ?_
  exact ⟨W2, x, y, rfl, s2, r1.ext x2, r2, wpR_eqo (show wpR (eqoD C p neg t x y W2.st) (fun d st' => Lf G W d st' Q) _ from q2) fun _ _ l => l.from (x1.trans x2)⟩
theorem st_eqo {p neg : Bool} {t : List (Str × Nat)} {sgs : Nat → Sig} {a b : Expr} {ea eb : Ex} {pos : Pos} (hK : X.K = G.K) (hu : X.A.units + 65 < cLine) (M : EqOk G C X t sgs) (hm : behindInMarks (opN neg) b = false) (ha : PE X a (RE G Ww C ea)) (hb : PE X b (RE G Ww C eb)) : PT X (.Compare a [opN neg] [b] pos) (RT G Ww C (.eqo p neg t ea eb)) := by
  refine PT.of (pt_cmpR (op_eqo (p := p) hK hu M) ha hb hm) fun σ H Q h => ?_
  obtain ⟨W, φ, rfl, f, s, h⟩ := h
  have h1 := wpR_bind.mp h
  refine RE.step f s (wpR_bind.mp h1) fun x W1 v1 q1 x1 f1 s1 r1 => ?_
  refine RE.step f1 s1 (Xf.from x1 (wpR_bind.mp q1)) fun y W2 v2 q2 x2 f2 s2 r2 => ?_
  refine ⟨W2, x, y, rfl, s2, r1.ext x2, r2, wpR_eqo (show wpR (eqoD C p neg t x y W2.st) _ _ from q2) fun k st' l => ?_⟩
  intro W3 v3 e3 x3 s3 r3
  cases r3 with
  | bl _ =>
    have l' : ∀ W', W'.st = st' → Ext W W' → SRel G W' → Q k W'.H := l
    exact ⟨k, rfl, l' W3 e3 ((x1.trans x2).trans x3) s3⟩
/-- what isinstance of an instance asks of the class -/
structure InsF (K : PySem.W.Frag) (C : Addr) : Prop where
  ha : PySem.W.findIn K (.ref C) "__class__" = some (some (.builtin "object.__class__"))
  hn : PySem.W.specialIn K (.builtin "object.__class__") "__get__" = some (some (.builtin "getset_descriptor.__get__"))
  htk : PySem.W.takesIn K (.builtin "object.__class__") = some true
  hm : PySem.W.mroIn K C (.type "object") = some true
def insB (K : PySem.W.Frag) (C : Addr) : Bool := ((match PySem.W.findIn K (.ref C) "__class__" with
  | some (some (.builtin b)) => b == "object.__class__"
  | _ => false) && (match PySem.W.specialIn K (.builtin "object.__class__") "__get__" with
  | some (some (.builtin b)) => b == "getset_descriptor.__get__"
  | _ => false)) && ((PySem.W.takesIn K (.builtin "object.__class__") == some true) && (PySem.W.mroIn K C (.type "object") == some true))
theorem insB_ok {K : PySem.W.Frag} {C : Addr} (h : insB K C = true) : InsF K C := by
  unfold insB at h
  rw [Bool.and_eq_true, Bool.and_eq_true, Bool.and_eq_true] at h
  obtain ⟨⟨h1, h2⟩, h3, h4⟩ := h
  refine ⟨?_, ?_, beq_iff_eq.mp h3, beq_iff_eq.mp h4⟩
  · split at h1
    · rename_i b hb
      rw [hb, beq_iff_eq.mp h1]
    · cases h1
  · split at h2
    · rename_i b hb
      rw [hb, beq_iff_eq.mp h2]
    · cases h2
theorem se_iso {a : Expr} {ea : Ex} {c : Str} {p p2 pos : Pos} (hK : X.K = G.K) (hg : Gl X "isinstance") (hm : X.mg "isinstance" = none) (hgc : Gl X c) (hmc : X.mg c = some (.ref (G.cl c))) (hd : (c == ("__debug__" : Str)) = false) (hcl : Cls X.K (G.cl c)) (hin : InsF X.K (G.cl c)) (ha : PE X a (RE G Ww C ea))
    (hs : starEach [a, .Name c p2] X.env = (false, eval a X.env) :: starEach [.Name c p2] X.env) : PE X (.Call (.Name "isinstance" p) [a, .Name c p2] [] pos) (RE G Ww C (.iso c ea)) := by
  refine PE.of (pe_callB (C8.call_isC (C := G.cl c) ⟨hcl, hin.ha, hin.hn, hin.htk, hin.hm, by unfold PySem.W.kitOne; simp⟩) hg hm (by decide +kernel) (pa_cons ha (pa_cons (pe_glob (v := .ref (G.cl c)) hgc hmc rfl hd) pa_nil) hs) (by decide) (by decide) hs rfl) fun σ H Q h => ?_
  obtain ⟨W, φ, rfl, f, s, h⟩ := h
  refine RE.step f s (wpR_bind.mp h) fun d W1 v q1 x1 f1 s1 r1 => ?_
  cases e : objOf W1.st d with
  | none => rw [e] at q1; exact q1.elim
  | some o =>
    obtain ⟨c', fn, fv⟩ := o
    rw [e] at q1
    have q2 : wpR (if c' = c then ok (D.bl true) W1.st else none) (fun d st' => Lf G W d st' Q) (Xf G Ww σ W) := q1
    by_cases hc : c' = c
    · subst hc
      rw [if_pos rfl] at q2
      obtain ⟨pa, dx, vs, rfl, hi, _, _⟩ := obj_at s1 r1 e
      exact ⟨pa, dx, _, rfl, hi, (show Lf G W (.bl true) W1.st Q from q2) W1 _ rfl x1 s1 (.bl _)⟩
    · rw [if_neg hc] at q2
      exact q2.elim
end
end OM
namespace OM
open PySem PySem.Spec L2
theorem zip_lookup : ∀ {ps : List Str} {us : List Value} {n : Str}, us.length = ps.length → n ∈ ps → ((ps.zip us).lookup n).isSome = true
  | [], _, _, _, h => by cases h
  | p :: ps, [], n, hl, _ => by cases hl
  | p :: ps, u :: us, n, hl, h => by
    show (((p, u) :: ps.zip us).lookup n).isSome = true
    rw [List.lookup_cons]
    by_cases e : n = p
    · subst e; simp
    · have : (n == p) = false := by simpa using e
      rw [this]
      exact zip_lookup (by simpa using hl) ((List.mem_cons.mp h).resolve_left e)
theorem zip_lookup_none : ∀ {ps : List Str} {us : List Value} {n : Str}, n ∉ ps → (ps.zip us).lookup n = none
  | [], _, _, _ => rfl
  | p :: ps, [], n, _ => rfl
  | p :: ps, u :: us, n, h => by
    show ((p, u) :: ps.zip us).lookup n = none
    rw [List.lookup_cons]
    have : (n == p) = false := by simpa using fun z : n = p => h (z ▸ List.mem_cons_self ..)
    rw [this]
    exact zip_lookup_none fun z => h (List.mem_cons_of_mem _ z)
theorem zip_binds : ∀ {ps : List Str} {us : List Value}, us.length = ps.length → ps.Nodup → (ps.filterMap fun n => ((ps.zip us).lookup n).map (n, ·)) = ps.zip us
  | [], _, _, _ => rfl
  | p :: ps, [], hl, _ => by cases hl
  | p :: ps, u :: us, hl, nd => by
    have hnd := List.nodup_cons.mp nd
    show (List.filterMap (fun n => (((p, u) :: ps.zip us).lookup n).map (n, ·)) (p :: ps)) = (p, u) :: ps.zip us
    rw [List.filterMap_cons]
    have h1 : ((p, u) :: ps.zip us).lookup p = some u := by rw [List.lookup_cons]; simp
    rw [h1]
    have h2 : ∀ l : List Str, p ∉ l → List.filterMap (fun n => (((p, u) :: ps.zip us).lookup n).map (n, ·)) l = List.filterMap (fun n => ((ps.zip us).lookup n).map (n, ·)) l := fun l => by
      induction l with
      | nil => intro _; rfl
      | cons n l ih =>
        intro hn
        have e : (n == p) = false := by simpa using fun (e : n = p) => hn (e ▸ List.mem_cons_self ..)
        rw [List.filterMap_cons, List.filterMap_cons, ih fun z => hn (List.mem_cons_of_mem _ z), List.lookup_cons, e]
    show (p, u) :: List.filterMap _ ps = _
    rw [h2 ps hnd.1, zip_binds (ps := ps) (us := us) (by simpa using hl) hnd.2]
/-- all names have a value -/
theorem miss_nil {ps : List Str} {us : List Value} (hl : us.length = ps.length) (rs : List Str) (h : ∀ n ∈ rs, n ∈ ps) (sl : List (Str × Value)) (hs : sl = ps.zip us) : (List.filter (fun n => (List.lookup n sl).isNone) rs) = [] := by
  rw [List.filter_eq_nil_iff]
  intro n hn z
  have q := zip_lookup hl (h n hn)
  rw [hs, Option.isNone_iff_eq_none] at z
  rw [z] at q
  cases q
/-- plain parameters, perhaps one that is passed by its name -/
def plainArgs (a : Arguments) (ps : List Str) (kw : Option Str) : Bool := a.posonlyargs.isEmpty && (a.vararg.isNone && (a.kwarg.isNone && (decide (a.args.map (·.arg) ++ kw.toList = ps) && decide (a.kwonlyargs.map (·.arg) = kw.toList))))
theorem plainArgs_ok {a : Arguments} {ps : List Str} {kw : Option Str} (h : plainArgs a ps kw = true) : a.posonlyargs = [] ∧ a.vararg = none ∧ a.kwarg = none ∧ a.args.map (·.arg) ++ kw.toList = ps ∧ a.kwonlyargs.map (·.arg) = kw.toList := by
  unfold plainArgs at h
  simpa only [Bool.and_eq_true, List.isEmpty_iff, Option.isNone_iff_eq_none, decide_eq_true_eq] using h
theorem bind_plain {fd : FuncData} {ps : List Str} {us : List Value} (h : plainArgs fd.params ps none = true) (hd : fd.defaults = .none) (nd : ps.Nodup) (hl : us.length = ps.length) : bindArgs fd ⟨us, []⟩ = pure (ps.zip us) := by
  obtain ⟨h1, h2, h3, h4, h5⟩ := plainArgs_ok h
  have h4' : fd.params.args.map (·.arg) = ps := by simpa using h4
  have h5' : fd.params.kwonlyargs = [] := by simpa using h5
  have miss := miss_nil hl ps (fun _ h => h) _ rfl
  unfold bindArgs
  simp [h1, h2, h3, h4', h5', hd, hl, seqItems?, miss, zip_binds hl nd]
  rfl
def fnScB (N P : List Str) (sc : Scope) : Bool := (match sc.kind with | .function => true | _ => false) && (!sc.isCoroutine && (!sc.isGenerator && (decide N.Nodup && (decide (N.take P.length = P) && ((P.all fun x => match sc.names.lookup x with
  | some .local => true
  | some .cell => true
  | _ => false) && sc.names.all fun y => match y.2 with
  | .free => false
  | _ => true)))))
theorem fnScB_ok {N P : List Str} {sc : Scope} (h : fnScB N P sc = true) : FnScope N P sc := by
  unfold fnScB at h
  simp only [Bool.and_eq_true, Bool.not_eq_true', decide_eq_true_eq, List.all_eq_true] at h
  obtain ⟨h1, h2, h3, h4, h5, h6, h7⟩ := h
  refine ⟨?_, h2, h3, h4, h5, fun x hx => ?_, fun y hy z => ?_⟩
  · split at h1 <;> first | assumption | cases h1
  · have q := h6 x hx
    split at q <;> first | exact .inl (by assumption) | exact .inr (by assumption) | cases q
  · have q := h7 y hy
    rw [z] at q
    cases q
/-- a lambda x: (len(x), x) as key: its parameter, its scope -/
def lamKeyC (x : Str) (params : Arguments) (body : Expr) (scope : Scope) (f : Str → Expr → Bool) : Bool := plainArgs params [x] none && (params.defaults.isEmpty && (params.kw_defaults.isEmpty && (f x body && (fnScB [x] [x] scope && ((scope.names.all fun y => match y.2 with | .cell => false | _ => true) && ((match scope.names.lookup ("len" : Str) with | some .globalImplicit => true | _ => false) && !(x == ("__debug__" : Str))))))))
def lamKeyB (params : Arguments) (body : Expr) (scope : Scope) (f : Str → Expr → Bool) : Option Str := match params.args with
  | [a] => if lamKeyC a.arg params body scope f = true then some a.arg else none
  | _ => none
theorem lamKeyB_ok {params : Arguments} {body : Expr} {scope : Scope} {f : Str → Expr → Bool} {x : Str} (h : lamKeyB params body scope f = some x) :
    plainArgs params [x] none = true ∧ params.defaults = [] ∧ params.kw_defaults = [] ∧ f x body = true ∧ FnScope [x] [x] scope ∧ (∀ y ∈ scope.names, y.2 ≠ .cell) ∧ scope.names.lookup ("len" : Str) = some NameKind.globalImplicit ∧ (x == ("__debug__" : Str)) = false := by
  unfold lamKeyB at h
  split at h
  · split at h
    · rename_i a _ hc
      cases h
      unfold lamKeyC at hc
      simp only [Bool.and_eq_true, List.isEmpty_iff, List.all_eq_true, Bool.not_eq_true'] at hc
      obtain ⟨h1, h2, h3, h4, h5, h6, h7, h8⟩ := hc
      refine ⟨h1, h2, h3, h4, fnScB_ok h5, fun y hy z => ?_, ?_, h8⟩
      · have q := h6 y hy
        rw [z] at q
        cases q
      · split at h7 <;> first | assumption | cases h7
    · cases h
  · cases h
end OM
namespace OM
open PySem PySem.Spec PyProof.Rows L2
/-- lambda x: (len(x), x) -/
def sizeKey (x : Str) (e : Expr) : Bool := match e with
  | .Tuple [.Call (.Name l _) [.Name y _] [] _, .Name z _] _ _ => (l == ("len" : Str)) && ((y == x) && (z == x))
  | _ => false
theorem reads_str {h : Heap} : ∀ {xs : List D} {us : List Value} {as : List Addr}, (xs.all fun d => match d with | .str _ => true | _ => false) = true → ReadsAll h us (toPyL xs) as → as = []
  | [], _, _, _, r => by
    cases r
    rfl
  | x :: xs, _, _, hx, r => by
    rw [List.all_cons, Bool.and_eq_true] at hx
    cases x with
    | str t =>
      have e : toPyL (.str t :: xs) = .str t :: toPyL xs := by simp only [toPyL, toPy]
      rw [e] at r
      cases r with
      | cons a b =>
        rw [reads_str hx.2 b]
        cases a
        rfl
    | _ => exact absurd hx.1 (by simp)
section
variable {X : Cx} {pins : List (Addr × Obj)} {σ : L2.St} {H : Hp} {s : Shared}
/-- the key of a tuple -/
theorem key_turn {A : Around} {f c' a : Addr} {pm ctv : Value} {qual : Str} {params : Arguments} {body : Expr} {scope : Scope} {x : Str} {items : List Value} {k : PyData}
    (I : L2.Inv X pins σ H s) (hdp : A.depth < recursionLimit) (hf : s.heap.get? f = some (PySem.W.kla_obj "<lambda>" qual params body scope [] pm c' ctv)) (hco : s.heap.CodeRec (.ref c') qual)
    (hp : plainArgs params [x] none = true) (hbody : sizeKey x body = true) (S : FnScope [x] [x] scope) (hcell : ∀ y ∈ scope.names, y.2 ≠ .cell) (gl : scope.names.lookup ("len" : Str) = some NameKind.globalImplicit) (hml : X.mg "len" = none) (hdb : (x == ("__debug__" : Str)) = false)
    (ht : IsTup s.heap a items.toArray) (hz : items.length ≤ sizeLine) (hk : Reads s.heap (.ref a) k []) :
    wpAny (model X.prog X.w) A (call (.ref f) [.ref a]) (PySem.W.KeyPure (.tuple [.int items.length, k]) s) (fun _ _ => False) s := by
  unfold sizeKey at hbody
  split at hbody
  · rename_i l p1 y p2 p3 z p4 j p5
    simp only [Bool.and_eq_true, beq_iff_eq] at hbody
    obtain ⟨rfl, rfl, e3⟩ := hbody
    subst e3
    have hloc : scope.names.lookup z = some .local := by
      rcases S.par z (by simp) with q | q
      · exact q
      · exact absurd rfl (hcell _ (PySem.mem_of_lookup q))
    refine wpAny_call (codeAny_mono (R := fun r s' => match r with
      | .ok (.ret u) => PySem.W.KeyPure (.tuple [.int items.length, k]) s u s'
      | _ => False) ?_ fun r s' hq => ?_)
    · refine PySem.W.kla_callFunE hdp hf rfl S.co S.gen rfl hco ?_
      rw [bind_plain (ps := [z]) hp rfl (by simp) rfl]
      refine wpAny_pure (wpAny_newFunctionEnv hcell (fun q hq => ?_) (fun h₁ hns hsb => ⟨I.nolimit.fresh _ hsb, ?_⟩) S.kind)
      · have : q = (z, Value.ref a) := by simpa using hq
        rw [this]
        exact hloc
      show codeAny _ _ (.expr _ (PySem.W.envX qual scope s.heap.objs.size f (.ref c') [])) _ _
      have kp : ∀ b o, s.heap.get? b = some o → h₁.get? b = some o := fun b o e => hsb.extBut b o (Nat.ne_of_lt (Heap.lt_size e)) (Heap.get?_push_of_some _ e)
      refine PySem.W.kla_codeExpr ?_
      obtain ⟨mb, b1, b2⟩ := I.mod.blt
      have hx : ∀ (s2 : Shared) (p : Pos) (Q : Value → Shared → Prop) (E : Value → Shared → Prop), (∀ b o, h₁.get? b = some o → s2.heap.get? b = some o) → Q (.ref a) s2 → wpAny (model X.prog X.w) (A.deeper (PySem.W.envX qual scope s.heap.objs.size f (.ref c') [])) (eval (.Name z p) (PySem.W.envX qual scope s.heap.objs.size f (.ref c') [])) Q E s2 := fun s2 p Q E k2 q =>
        wpAny_Name (wpAny_loadName_local S.kind hloc (hns.keeps k2) (by simp) q) hdb
      refine wpAny_Tuple_spliced ?_
      show wpAny _ _ (spliced ((false, eval _ _) :: (false, eval _ _) :: [])) _ _ _
      refine Calls.spliced_cons ?_
      refine wpAny_Call_Name_kw (Calls.Name_function_global S.kind gl (Calls.loadGlobal_builtin ((I.mod.glob.keeps I.bk).keeps kp) hml ((b1.keeps I.bk).keeps kp) ((b2 "len" (by decide)).trans (by decide +kernel : bootBuiltins "len" = some (.builtin "len"))) ?_) (by decide))
      refine PyProof.Rows.callWith_builtin1 ?_
      show wpAny _ _ (spliced ((false, eval _ _) :: [])) _ _ _
      refine Calls.spliced_cons (hx _ _ _ _ (fun _ _ e => e) (Calls.spliced_nil ?_))
      refine len_tuple (ht.keeps kp) ?_ ?_
      · have := line63
        simp only [List.size_toArray]
        omega
      refine Calls.spliced_cons (hx _ _ _ _ (fun _ _ e => e) (Calls.spliced_nil ⟨by show 2 ≤ sizeLine; rw [sizeLine_eq]; omega, ?_⟩))
      refine ⟨_, _, rfl, fun b o e => Heap.get?_push_of_some _ (kp b o e), ?_⟩
      refine .tuple (Heap.get?_push_size _ rfl) rfl rfl ?_
      have r2 : Reads (h₁.push { cls := .type "tuple", data := .seq [Value.int items.toArray.size ((s.toks + [z].length) + 1), Value.ref a].toArray }) (.ref a) k [] := PyProof.Rows.Reads.keeps (fun b o e => Heap.get?_push_of_some _ (kp b o e)) hk
      have e0 : (items.toArray.size : Int) = items.length := by simp
      have r3 := ReadsAll.cons (h := h₁.push { cls := .type "tuple", data := .seq [Value.int items.toArray.size ((s.toks + [z].length) + 1), Value.ref a].toArray }) (Reads.int (items.toArray.size : Int) ((s.toks + [z].length) + 1)) (ReadsAll.cons r2 ReadsAll.nil)
      rw [e0] at r3
      exact r3
    · cases r with
      | error e => exact hq.elim
      | ok fl =>
        cases fl with
        | ret u => exact hq
        | _ => exact hq.elim
  · cases hbody
end
end OM
namespace OM
open PySem PySem.Spec PyProof.Rows L2
section
variable {G : GX} {W : Wl}
/-- other tables -/
def Wl.tabs (W : Wl) (H1 : Hp) : Wl := { W with H := H1 }
theorem Wl.tabs_ext (s : SRel G W) {H1 : Hp} (e : LamX.ExtN W.H H1) : Ext W (W.tabs H1) :=
  ⟨⟨Nat.le_refl _, fun _ _ => rfl, fun p o h t n => ⟨e p o h n, t⟩⟩, fun p o b h => ⟨b, e p o h fun ps z => by
    obtain ⟨u, hu, pu⟩ := s.bok p b
    rw [hu] at h
    cases h
    subst z
    exact pu⟩⟩
theorem Wl.tabs_s (s : SRel G W) {H1 : Hp} (e : LamX.ExtN W.H H1) (t : LamX.Tabs G.tb H1) : SRel G (W.tabs H1) := by
  have x := W.tabs_ext s e
  refine ⟨s.lt, s.inj, fun n o g => (s.ob n o g).ext x.toExt0 ?_, fun p b => ?_, s.bsep, t⟩
  · obtain ⟨u, hu, pu⟩ := Wl.T.pln s (.inl ⟨n, o, g, rfl⟩)
    exact (e _ _ hu fun ps z => by rw [z] at pu; exact pu).trans hu.symm
  · obtain ⟨u, hu, pu⟩ := s.bok p b
    exact ⟨u, (x.bld p u b hu).2, pu⟩
end
/-- a def that makes a lambda: its code object, its table -/
structure LamB (G : GX) (X : Cx) : Prop where
  ex : ∃ c P, X.env.code = .ref c ∧ LamX.TabB X.base X.mg c P ∧ (P, X.env.qual ++ "<lambda>") ∈ G.tb ∧ ∀ p ∈ G.tb, p.1 = P → p.2 = X.env.qual ++ "<lambda>"
  room : X.A.depth < recursionLimit
theorem clo_nil {cells : List (Str × Addr)} : ∀ {names : List (Str × NameKind)} {acc : List (Str × Addr)}, (∀ y ∈ names, y.2 ≠ .free) → cloFrom cells names acc = acc
  | [], _, _ => rfl
  | (n, k) :: r, acc, h => by
    have hk : (k == NameKind.free) = false := by
      have := h (n, k) (List.mem_cons_self ..)
      cases k <;> first | rfl | exact absurd rfl this
    show (if k == NameKind.free then _ else cloFrom cells r acc) = acc
    rw [hk]
    exact clo_nil fun y hy => h y (List.mem_cons_of_mem _ hy)
theorem txt_plain : ∀ {xs : List D}, (xs.all fun d => match d with | .str _ => true | _ => false) = true → plainL xs = true
  | [], _ => rfl
  | x :: xs, h => by
    rw [List.all_cons, Bool.and_eq_true] at h
    cases x with
    | str t => simp only [plainL, plain, Bool.true_and]; exact txt_plain h.2
    | _ => exact absurd h.1 (by simp)
theorem txt_alk : ∀ {xs ys : List D}, (xs.all fun d => match d with | .str _ => true | _ => false) = true → (ys.all fun d => match d with | .str _ => true | _ => false) = true → alkL xs ys = true
  | [], ys, _, _ => by cases ys <;> rfl
  | _ :: _, [], _, _ => rfl
  | x :: xs, y :: ys, h, k => by
    rw [List.all_cons, Bool.and_eq_true] at h k
    cases x with
    | str t =>
      cases y with
      | str u => simp only [alkL, alk, Bool.true_and]; exact txt_alk h.2 k.2
      | _ => exact absurd k.1 (by simp)
    | _ => exact absurd h.1 (by simp)
theorem txt_dep : ∀ {xs : List D}, (xs.all fun d => match d with | .str _ => true | _ => false) = true → depL xs = 0
  | [], _ => rfl
  | x :: xs, h => by
    rw [List.all_cons, Bool.and_eq_true] at h
    cases x with
    | str t => simp only [depL, dep]; rw [txt_dep h.2]; rfl
    | _ => exact absurd h.1 (by simp)
theorem txtTup_at {d : D} (h : txtTup d = true) : ∃ xs, d = .tup xs ∧ (xs.all fun d => match d with | .str _ => true | _ => false) = true := by
  cases d with
  | tup xs => exact ⟨xs, rfl, h⟩
  | _ => cases h
theorem szKey_ok {d : D} (h : txtTup d = true) : plain (szKey d) = true ∧ dep (szKey d) ≤ 2 := by
  obtain ⟨xs, rfl, hx⟩ := txtTup_at h
  refine ⟨?_, ?_⟩
  · simp only [szKey, plain, plainL, Bool.true_and, Bool.and_true]
    exact txt_plain hx
  · simp only [szKey, dep, depL, txt_dep hx]
    decide
theorem szKey_alk {d e : D} (h : txtTup d = true) (k : txtTup e = true) : alk (szKey d) (szKey e) = true := by
  obtain ⟨xs, rfl, hx⟩ := txtTup_at h
  obtain ⟨ys, rfl, hy⟩ := txtTup_at k
  simp only [szKey, alk, alkL, Bool.true_and, Bool.and_true]
  exact txt_alk hx hy
theorem sortSz_ok {xs ys : List D} (h : sortSz xs = some ys) : (∀ d ∈ xs, txtTup d = true) ∧ PySem.W.AllAlike (xs.map fun d => toPy (szKey d)) ∧ PySem.W.Sortable (xs.map fun d => toPy (szKey d)) ∧ ys = xs.mergeSort (PySem.W.dataLe false fun d => toPy (szKey d)) := by
  unfold sortSz at h
  split at h
  · rename_i hc
    rw [List.all_eq_true] at hc
    refine ⟨hc, fun d hd d' hd' => ?_, .inl fun d hd => ?_, ?_⟩
    · obtain ⟨b, hb, rfl⟩ := List.mem_map.mp hd
      obtain ⟨b', hb', rfl⟩ := List.mem_map.mp hd'
      rw [alk_py _ _ (szKey_ok (hc b hb)).1 (szKey_ok (hc b' hb')).1]
      exact szKey_alk (hc b hb) (hc b' hb')
    · obtain ⟨b, hb, rfl⟩ := List.mem_map.mp hd
      obtain ⟨zs, rfl, _⟩ := txtTup_at (hc b hb)
      exact ⟨.int zs.length, [toPy (.tup zs)], by simp only [szKey, toPy, toPyL]⟩
    · cases h
      have e := List.map_mergeSort (r := fun a b => !dlt (szKey b) (szKey a)) (s := PySem.W.dataLe false fun d => toPy (szKey d)) (f := id) (l := xs) (fun a ha b hb => by
        show (!dlt (szKey b) (szKey a)) = (!PySem.W.dataLt (toPy (szKey b)) (toPy (szKey a)))
        rw [dlt_py _ _ (szKey_ok (hc b hb)).1 (szKey_ok (hc a ha)).1 (szKey_alk (hc b hb) (hc a ha))])
      rw [List.map_id, List.map_id] at e
      exact e
  · cases h
section
variable {G : GX} {Ww : WX} {C : Calls} {X : Cx}
theorem se_sortsz {m : Bool} {a : Expr} {ea : Ex} {x : Str} {p lpos kpos pos : Pos} {params : Arguments} {body : Expr} {scope : Scope} (hK : X.K = G.K) (hu : X.A.units + 65 < cLine) (L : LamB G X) (hg : Gl X "sorted") (hm : X.mg "sorted" = none) (hml : X.mg "len" = none)
    (ha : PE X a (RE G Ww C ea)) (hs : starEach [a] X.env = (false, eval a X.env) :: starEach [] X.env) (hp : plainArgs params [x] none = true) (hd0 : params.defaults = []) (hkd : params.kw_defaults = []) (hbody : sizeKey x body = true) (S : FnScope [x] [x] scope) (hcell : ∀ y ∈ scope.names, y.2 ≠ .cell)
    (gl : scope.names.lookup ("len" : Str) = some NameKind.globalImplicit) (hdb : (x == ("__debug__" : Str)) = false) :
    PE X (.Call (.Name "sorted" p) [a] [⟨some "key", .Lambda params body scope lpos, kpos⟩] pos) (RE G Ww C (.sortsz m ea)) := by
  refine ⟨fun pins s σ H Q I h => ?_⟩
  obtain ⟨W, φ, rfl, f, sr, h⟩ := h
  have h1 := wpR_bind.mp h
  have h2 : RE G Ww C ea σ W.H (fun v H' => ∃ W1 d, W1.H = H' ∧ Ext W W1 ∧ SRel G W1 ∧ Rel G W1 d v ∧ wpR (match listOf W1.st d with
    | some xs => if xs.length ≤ line then (lift ((sortSz xs).map .lst) W1.st).bind fun d st => OM.mk m d st else none
    | none => none) (fun d st' => Lf G W d st' Q) (Xf G Ww σ W)) := RE.step f sr h1 fun d W1 v q x1 f1 s1 r1 => ⟨W1, d, rfl, x1, s1, r1, q⟩
  obtain ⟨c, P, hcode, TB, hmT, huT⟩ := L.ex
  refine wpAny_Call_Name_kw (ld_blt I hg hm (by decide +kernel : bootBuiltins "sorted" = some (.builtin "sorted")) ?_ (by decide) (by decide))
  refine PyProof.Rows.callWith_kw ?_ ?_ ?_
  · rw [hs]
    show wpAny _ _ (spliced ((false, eval a X.env) :: backTo pos (starEach [] X.env))) _ _ s
    refine Calls.spliced_cons (thn (ha.run pins s σ W.H _ I h2) fun u s1 ⟨v, H1, I1, rv, q1⟩ => Calls.spliced_nil ?_)
    obtain ⟨W1, d, rfl, x1, sr1, r1, q⟩ := q1
    show wpAny _ _ (evalAll ((do let v ← eval (.Lambda params body scope lpos) X.env; standAt pos; pure v) :: [])) _ _ s1
    refine wpAny_evalAll_cons (wpAny_bind (LamX.lam_make2 (P := P) (c := c) I1 TB hcode hmT huT sr1.tab (by unfold defaultsOf; rw [show params = ⟨params.posonlyargs, params.args, params.vararg, params.kwonlyargs, [], params.kwarg, []⟩ by cases params; simp_all] <;> rfl) (fun y hy e => absurd e (S.nofree y hy)) fun f c' pm ctv H2 s2 I2 eN T2 hf hfn hfr hco => wpAny_bind (wpAny_standAt (wpAny_pure (wpAny_evalAll_nil ?_)))))
    rw [clo_nil S.nofree] at hf
    have x2 := W1.tabs_ext sr1 eN
    have sr2 := W1.tabs_s sr1 eN T2
    cases hl : listOf W1.st d with
    | none => rw [hl] at q; exact q.elim
    | some xs =>
      rw [hl] at q
      dsimp only at q
      by_cases hz : xs.length ≤ line
      · rw [if_pos hz] at q
        obtain ⟨d1, e1, q⟩ := wpR_lift (wpR_bind.mp q)
        cases h3 : sortSz xs with
        | none => rw [h3] at e1; cases e1
        | some ys =>
          rw [h3] at e1
          cases e1
          obtain ⟨d', st', em, lf⟩ := wpR_mk q
          obtain ⟨p0, vs, rfl, hp0, rr⟩ := list_at sr1 r1 hl
          obtain rfl : u = Value.ref p0 := rv
          have hp2 : (W1.tabs H2).H p0 = some (.lst vs) := eN _ _ hp0 nofun
          have rr2 := rr.ext x2
          obtain ⟨its, rv2, hl', hz'⟩ := I2.list (.inl (.inl hp2))
          obtain ⟨t1, t2, t3, rfl⟩ := sortSz_ok h3
          refine PySem.W.sorted_key_data (R := fun v b => VD G (W1.tabs H2) v b) (b := false) (bs := xs) (fun d => toPy (szKey d)) hl'.isList (each_vd rr2 rv2) t2 t3 (by rw [← line_eq]; exact hz) (fun b hb => by
            rw [dep_py]
            have := (szKey_ok (t1 b hb)).2
            omega) (PyProof.Rows.ksk_s1 _ _) (fun _ => PyProof.Rows.ksk_l1 _ _) (fun _ => PyProof.Rows.ksk_t1 _ _) (fun v b hR hb h' tk kp => ?_) fun out c0 h' tk kp fresh hD hlen hE => ?_
          · obtain ⟨zs, rfl, hzs⟩ := txtTup_at (t1 b hb)
            obtain ⟨u, ru, rvu⟩ := hR
            have dpu := (ru.dp (by simp only [plain]; exact txt_plain hzs)).1
            obtain ⟨as, hrd⟩ := Dp.reads I2 (toPy (.tup zs)) u v (by rw [hK]; exact dpu) rvu
            cases ru with
            | tup hT rl =>
              rename_i a ws
              obtain rfl : v = Value.ref a := rvu
              obtain ⟨items, ri, hti, hzi⟩ := I2.tuple (by rw [hK]; exact hT.sq)
              have el : items.length = zs.length := by rw [← ri.length, ← rl.length]
              have hnil : as = [] := by
                simp only [toPy] at hrd
                cases hrd with
                | tuple g1 g2 g3 g4 => exact reads_str hzs g4
              subst hnil
              obtain ⟨⟨oc, vc, t, hoc, hdc, hvc⟩, _, _⟩ := I2.hok c' _ hco
              have kt := key_turn (A := X.A.in1.in1) (k := toPy (.tup zs)) (I2.kept (h' := h') (t' := tk) kp) (by show X.A.depth < _; exact L.room) (kp _ _ hf) ⟨c', oc, vc, t, rfl, kp _ _ hoc, hdc, hvc⟩ hp hbody S hcell gl hml hdb (hti.keeps kp) (by rw [← ri.length]; exact hzi) (PyProof.Rows.Reads.keeps kp hrd)
              rw [el] at kt
              have e : toPy (szKey (.tup zs)) = .tuple [.int zs.length, toPy (.tup zs)] := by simp only [szKey, toPy, toPyL]
              rw [e]
              exact kt
          · obtain ⟨vs', g1, g2⟩ := vd_each hE
            have hlen2 : vs'.length ≤ sizeLine := by rw [← g1.length, List.length_mergeSort, ← line_eq]; exact hz
            exact ⟨.ref _, upd H2 (s2.heap.objs.size + 1) (.lst vs'), I2.laid (t' := tk) kp (Nat.le_succ _) ⟨hlen2, out, c0, g2, hD⟩, rfl, (lf.from (x1.trans x2)).mk (W := W1.tabs H2) em sr2 g1 _ (I2.hok.fresh (Nat.le_succ _))⟩
      · rw [if_neg hz] at q; exact q.elim
  · show backTo pos (starEach [a] X.env) = _
    rw [hs]
    rfl
  · rw [hs]
    rfl
end
end OM
namespace OM
open PySem PySem.Spec PyProof.Rows L2
abbrev Cls1 := Value × Option Nat × (Addr → Value → Option Addr → TS)
/-- the ends of a clause's suite: its name goes -/
def endD (D : Ends) : Option Nat → Ends
  | none => D
  | some i => { nx := fun σ H => D.nx (σ.set i none) H, rt := D.rt, bk := fun σ H => D.bk (σ.set i none) H, ct := fun σ H => D.ct (σ.set i none) H }
def putA (σ : L2.St) (a : Addr) : Option Nat → L2.St
  | none => σ
  | some i => σ.set i (some (.ref a))
/-- what the clauses wish of an exception of the body -/
def wAny (K : PySem.W.Frag) (Wo : WX) (D : Ends) : List Cls1 → WX
  | [] => Wo
  | (c, nm, ts) :: r => fun cls d σ H => ∃ b, PySem.W.exmOne K cls c = some b ∧ (b = true → ∀ a, H a = none → ts a cls d (endD D nm) (putA σ a nm) H) ∧ (b = false → wAny K Wo D r cls d σ H)
/-- the clauses as they are written -/
inductive HdsX (X : Cx) : List ExceptHandler → List Cls1 → Prop
  | nil : HdsX X [] []
  | bare {x : Str} {c : Value} {ts : Addr → Value → Option Addr → TS} {b₀ : Stmt} {su : List Stmt} {np p : Pos} {hs : List ExceptHandler} {l : List Cls1} (hc : Names X x c)
      (hsu : ∀ (a : Addr) (oe : Obj) (cls : Value) (d : Option Addr) (pn : List (Addr × Obj)), Zc cls d oe → (∃ vs, oe.data = .fields vs) → PSs (X.suite a ((a, oe) :: pn)) (b₀ :: su) (ts a cls d)) (r : HdsX X hs l) : HdsX X (.ExceptHandler (some (.Name x np)) none (b₀ :: su) p :: hs) ((c, none, ts) :: l)
  | nmd {x n : Str} {i : Nat} {c : Value} {ts : Addr → Value → Option Addr → TS} {b₀ : Stmt} {su : List Stmt} {np p : Pos} {hs : List ExceptHandler} {l : List Cls1} (hi : X.N[i]? = some n) (hl : X.env.kindOf n = some .local) (hc : Names X x c)
      (hsu : ∀ (a : Addr) (oe : Obj) (cls : Value) (d : Option Addr) (pn : List (Addr × Obj)), Zc cls d oe → (∃ vs, oe.data = .fields vs) → PSs (X.suite a ((a, oe) :: pn)) (b₀ :: su) (ts a cls d)) (r : HdsX X hs l) : HdsX X (.ExceptHandler (some (.Name x np)) (some n) (b₀ :: su) p :: hs) ((c, some i, ts) :: l)
/-- the exception a is in the air: it has left the body, its traceback is written, no clause has been asked -/
structure Air (X : Cx) (pins : List (Addr × Obj)) (σ : L2.St) (H : Hp) (a : Addr) (cls : Value) (d : Option Addr) (s : Shared) : Prop where
  fl : ∃ (B : Heap) (s0 : Shared), L2.Inv X pins σ H s0 ∧ (∀ b o, s0.heap.get? b = some o → b ∉ frs X.stack → B.get? b = some o) ∧ s0.heap.UpToSlots s.heap ∧ HandSPX.FlyingZ B (X.env :: X.outer) a (Zc cls d) s.heap ∧ s.os = s0.os ∧ AllBare s.gens
  na : H a = none
section
variable {X : Cx} {pins : List (Addr × Obj)} {σ : L2.St} {H : Hp} {a : Addr} {cls : Value} {d : Option Addr} {s : Shared} {A : Around} {E : Value → Shared → Prop}
theorem Air.inv (r : Air X pins σ H a cls d s) : Inv X pins σ H s := let ⟨_, _, I, n, u, f, o, g⟩ := r.fl; I.landed n f.1 u o g
/-- its object; it is no frame's -/
theorem Air.obj (hf : X.env.frame = some X.env.locals) (r : Air X pins σ H a cls d s) : ∃ oe vs, s.heap.get? a = some oe ∧ Zc cls d oe ∧ oe.data = .fields vs ∧ a ≠ X.env.locals ∧ a ∉ X.fs := by
  obtain ⟨_, _, _, _, _, f, _, _⟩ := r.fl
  obtain ⟨oe, vs, h1, h2, h3⟩ := f.there
  have out : a ∉ frs (X.env :: X.outer) := fun m => by
    obtain ⟨_, o, e, no⟩ := f.2.2.1.mem m
    exact no vs (by rw [h1] at e; rw [← Option.some.inj e]; exact h3)
  exact ⟨oe, vs, h1, h2, h3, fun z => out (List.mem_filterMap.mpr ⟨_, .head _, by rw [hf, z]⟩), fun m => out (let ⟨e, he, q⟩ := List.mem_filterMap.mp m; List.mem_filterMap.mpr ⟨e, .tail _ he, q⟩)⟩
/-- the state as a suite takes it -/
theorem Air.su (hf : X.env.frame = some X.env.locals) (r : Air X pins σ H a cls d s) : ∃ oe, Zc cls d oe ∧ (∃ vs, oe.data = .fields vs) ∧ Inv (X.suite a ((a, oe) :: (X.pn ++ pins))) [] σ H s :=
  let ⟨oe, vs, h1, h2, h3, h4, h5⟩ := r.obj hf
  ⟨oe, h2, ⟨vs, h3⟩, r.inv.suite h1 h3 r.na h4 h5⟩
theorem Air.again {Q : Unit → Shared → Prop} (r : Air X pins σ H a cls d s) (h : ∀ s', Air X pins σ H a cls d s' → Q () s') : wpAny (model X.prog X.w) A (setFlight (.ref a) none) Q E s :=
  let ⟨B, s0, I, n, u, f, o, g⟩ := r.fl
  HandSPX.lands_againZ f fun h' f' u' => h { s with heap := h' } ⟨⟨B, s0, I, n, u.trans u', f', o, g⟩, r.na⟩
/-- what is thrown from the body is in the air -/
theorem Air.of {W : WX} {u : Value} {xe : Value → Shared → Prop} {pn' : List (Addr × Obj)} {Q : Value → Shared → Prop} (ok : X.Ok) (hs : X.stack = X.env :: X.outer) (hf : X.env.frame = some X.env.locals) (x : XE (X.tr (X.pn ++ pn') xe) W u s)
    (h : ∀ a σ H cls d s', Air X pn' σ H a cls d s' → W cls d σ H → Q (.ref a) s') : wpAny (model X.prog X.w) X.A (noteFrame u X.env) (fun _ s2 => wpAny (model X.prog X.w) X.A (setFlight u none) (fun _ => Q u) E s2) E s := by
  obtain ⟨a, B, s0, p0, σ, H, cls, d, rfl, J, n, up, sky, na, os, ag, w⟩ := x
  refine L2.Sky.land Zc.steady (ok.frames.trans (by rw [hs])) hf (hs ▸ sky) fun h' f u' => ?_
  exact h a σ H cls d { s with heap := h' } ⟨⟨B, s0, J.ofTry ok, n, up.trans u', f, os, ag⟩, na⟩ w
/-- no clause takes it -/
theorem Air.out {W : WX} {Q : Flow → Shared → Prop} (hs : X.stack = X.env :: X.outer) (hf : X.env.frame = some X.env.locals) (tk : Takes X W) (r : Air X pins σ H a cls d s) (w : W cls d σ H) : wpAny (model X.prog X.w) A (handleBy (.ref a) X.env []) Q X.xe s := by
  obtain ⟨B, s0, I, n, u, f, o, g⟩ := r.fl
  obtain ⟨_, _, _, oe, vs, T, _, _, q1, _, q3, q4, _⟩ := id f
  refine wpAny_handleBy_nil ?_
  unfold PySem.passOn
  refine wpAny_bind (wpAny_field q1 q3 q4 ?_)
  have nn : ¬ ((Value.ref T == Value.none) = true) := nofun
  rw [if_neg nn]
  have go : wpAny (model X.prog X.w) A (setFlight (.ref a) X.env.frame) (fun _ s4 => wpAny (model X.prog X.w) A (throw (.ref a) : Sem Flow) Q X.xe s4) X.xe s := by
    rw [hf]
    refine HandSPX.setFlight_upZ f fun h' held u' => wpAny_throw (tk _ _ ?_)
    exact ⟨a, B, s0, pins, σ, H, cls, d, rfl, I, n, u.trans u', .inr (.inr (hs ▸ held)), r.na, o, g, w⟩
  first | exact wpAny_bind go | exact wpAny_bind (wpAny_pure (wpAny_bind go))
/-- a clause's class is asked -/
theorem Air.ask {x : Str} {c : Value} {np p : Pos} {b : Bool} {R : Result → Shared → Prop} (hf : X.env.frame = some X.env.locals) (r : Air X pins σ H a cls d s) (hc : Names X x c) (hb : PySem.W.exmOne X.K cls c = some b) (h : R (.ok (if b = true then .brk else .next)) s) :
    codeAny (model X.prog X.w) (X.A.mark (some (.ref a))) (.handlers (.ref a) [.ExceptHandler (some (.Name x np)) none [] p] X.env) R s := by
  obtain ⟨oe, vs, h1, h2, _⟩ := r.obj hf
  obtain ⟨oe', _, _, S⟩ := r.su hf
  have ty : PySem.W.Looks (model X.prog X.w) s.heap (typeOf (.ref a)) cls := fun _ _ _ _ k q => wpAny_typeOf_ref (k _ _ h1) (h2.1.symm ▸ q)
  refine codeAny_handlers_test ?_
  have m := PySem.W.exm_one (M := model X.prog X.w) r.inv.kIn ty hb
  obtain ⟨hg, hd, hm | ⟨hm, hv, hn⟩⟩ := hc
  · exact ld_glob (X := X.suite a _) S hg hm (m.here h) hd
  · exact ld_blt (X := X.suite a _) S hg hm hv (m.here h) hn hd
end
section
variable {X : Cx} {body : List Stmt} {h₀ : ExceptHandler} {hds : List ExceptHandler} {l : List Cls1} {pos : Pos} {tb : WX → TS} {Wo : WX}
/-- the clauses -/
theorem hds_run (hs : X.stack = X.env :: X.outer) (hf : X.env.frame = some X.env.locals) (hN : X.N.Nodup) (tk : Takes X Wo) {hds : List ExceptHandler} {l : List Cls1} (hk : HdsX X hds l) {pins : List (Addr × Obj)} {σ : L2.St} {H : Hp} {a : Addr} {cls : Value} {d : Option Addr} {s : Shared} {D : Ends} (r : Air X pins σ H a cls d s) :
    wAny X.K Wo D l cls d σ H → wpAny (model X.prog X.w) X.A (handleBy (.ref a) X.env hds) (SP X pins D) X.xe s := by
  have ok := r.inv.ok
  induction hk with
  | nil => exact r.out hs hf tk
  | bare hc su _ ih =>
    rintro ⟨b, eb, y, n⟩
    refine wpAny_handleBy_cons (r.ask hf hc eb ?_) nofun
    cases b with
    | false => exact ih (n rfl)
    | true =>
      refine codeAny_handlers_suite (r.again fun s' r' => ?_)
      obtain ⟨oe, z, f, S⟩ := r'.su hf
      refine wpAny_mono ((su a oe cls d _ z f).run [] s' σ H _ S (y rfl a r.na)) (fun f s6 q => ?_) fun _ _ z => z.elim
      cases f with
      | ret u => exact let ⟨_, _, _, S', z⟩ := q; ⟨_, _, _, S'.unsuite ok, z⟩
      | _ => exact let ⟨_, _, S', z⟩ := q; ⟨_, _, S'.unsuite ok, z⟩
  | nmd hi hl hc su _ ih =>
    rintro ⟨b, eb, y, n⟩
    refine wpAny_handleBy_cons (r.ask hf hc eb ?_) nofun
    cases b with
    | false => exact ih (n rfl)
    | true =>
      refine codeAny_handlers_suite_as (r.again fun s' r' => ?_)
      obtain ⟨oe, z, f, S⟩ := r'.su hf
      refine store_ok (X := X.suite a _) (v := .ref a) S hN hi (.inl hl) rfl (fun s5 S5 => ?_) (.inr hl)
      refine wpAny_mono ((su a oe cls d _ z f).run [] s5 _ H _ S5 (y rfl a r.na)) (fun f s6 q => ?_) fun _ _ z => z.elim
      cases f with
      | ret u => exact let ⟨_, _, _, S', z⟩ := q; gone_ok (S'.unsuite ok) hN hi hl fun _ J => ⟨_, _, _, J, z⟩
      | _ => exact let ⟨_, _, S', z⟩ := q; gone_ok (S'.unsuite ok) hN hi hl fun _ J => ⟨_, _, J, z⟩
/-- try: body, any clauses -/
theorem ps_tryA (hs : X.stack = X.env :: X.outer) (hf : X.env.frame = some X.env.locals) (hN : X.N.Nodup) (tk : Takes X Wo)
    (hb : ∀ (W : WX) (pn : List (Addr × Obj)) (xe : Value → Shared → Prop), Takes (X.tr pn xe) W → PassesOwn (model X.prog X.w) X.A X.env xe → PSs (X.tr pn xe) body (tb W)) (hh : HdsX X (h₀ :: hds) l) :
    PS X (.Try body (h₀ :: hds) [] [] pos) (fun D σ H => tb (wAny X.K Wo D l) D σ H) := ⟨fun pins s σ H D I h => by
  refine wpAny_Try_except (wpAny_mono ((hb _ _ _ (fun u s' x => ?_) PassesOwn.looking).run [] s σ H D (I.toTry _) h) (fun f s1 q => ?_) fun e s1 he => he)
  · exact Air.of (Q := fun u s => wpAny (model X.prog X.w) X.A (handleBy u X.env (h₀ :: hds)) (SP X pins D) X.xe s) I.ok hs hf x fun a σ' H' cls d s2 r w => hds_run hs hf hN tk hh r w
  · cases f with
    | next => exact let ⟨_, _, J, z⟩ := q; wpAny_execs_nil ⟨_, _, J.ofTry I.ok, z⟩
    | ret u => exact let ⟨_, _, _, J, z⟩ := q; ⟨_, _, _, J.ofTry I.ok, z⟩
    | _ => exact let ⟨_, _, J, z⟩ := q; ⟨_, _, J.ofTry I.ok, z⟩⟩
end
end OM
namespace OM
open PySem PySem.Spec PyProof.Rows L2
/-- what it promises: the fields are laid -/
def spI (C : Addr) (fn : List Str) : Sp := fun vs H Q _ => ∃ a us, vs = .ref a :: us ∧ us.length = fn.length ∧ H a = some (exo a C none) ∧
  (∀ H' d fs, H' a = some (exo a C (some d)) → H' d = some (exd d fs) → H d = none → d ≠ a → (∀ b, b ≠ a → b ≠ d → H' b = H b) → (∀ f, fs.lookup f = (fn.zip us).lookup f) → Q .non H') ∧ (fn = [] → Q .non H)
/-- on the way: these fields are laid -/
def XSt (H0 : Hp) (a C : Addr) (dn : List (Str × V)) (H : Hp) : Prop := (dn = [] ∧ H = H0) ∨
  ∃ d fs, H a = some (exo a C (some d)) ∧ H d = some (exd d fs) ∧ H0 d = none ∧ d ≠ a ∧ (∀ b, b ≠ a → b ≠ d → H b = H0 b) ∧ fs.length ≤ dn.length ∧ dn ≠ [] ∧ ∀ f, fs.lookup f = dn.lookup f
theorem look_snoc (g f : Str) (v : V) : ∀ {dn : List (Str × V)}, dn.lookup f = none → (dn ++ [(f, v)]).lookup g = if g = f then some v else dn.lookup g
  | [], _ => by
    show ((f, v) :: []).lookup g = _
    rw [lookup_put]
  | (k, u) :: dn, h => by
    have hk : f ≠ k := fun z => by rw [z] at h; simp [List.lookup] at h
    rw [lookup_put, if_neg hk] at h
    show ((k, u) :: (dn ++ [(f, v)])).lookup g = _
    rw [lookup_put, lookup_put, look_snoc g f v h]
    by_cases e : g = k
    · rw [if_pos e, if_pos e, if_neg (fun z => hk (z.symm.trans e))]
    · rw [if_neg e, if_neg e]
def initFs : List Str → List Stmt → Bool
  | [], [] => true
  | f :: fl, .Assign [.Attribute (.Name s _) g _] (.Name y _) _ :: r => decide (s = "self") && (decide (g = f) && (decide (y = f) && initFs fl r))
  | _, _ => false
/-- the reading of the assignments -/
def tI (N : List Str) (C : Addr) (fl : List Str) : TS := fun D σ H => ∃ H0 a dn us, σ[0]? = some (some (.ref a)) ∧ H0 a = some (exo a C none) ∧ us.length = fl.length ∧ (∀ (i j : Nat) (f : Str), fl[i]? = some f → N[j]? = some f → ∃ v, us[i]? = some v ∧ σ[j]? = some (some v)) ∧ dn.length + fl.length ≤ 900 ∧ (∀ f ∈ fl, dn.lookup f = none) ∧
  XSt H0 a C dn H ∧ ∀ H', XSt H0 a C (dn ++ fl.zip us) H' → D.nx σ H'
theorem init_rest {X : Cx} {C : Addr} (T : OexC X.K C) (h0 : X.N[0]? = some ("self" : Str)) (hs : Vis X.env.scope "self") : ∀ {fl : List Str} {sts : List Stmt}, initFs fl sts = true → fl.Nodup → (∀ f ∈ fl, PySem.W.findIn X.K (.ref C) f = some none ∧ (∃ j : Nat, X.N[j]? = some f) ∧ Vis X.env.scope f ∧ (f == ("__debug__" : Str)) = false ∧ (f == ("__classdict__" : Str)) = false) → PSs X sts (tI X.N C fl)
  | [], [], _, _, _ => PSs.of pss_nil fun D σ H h => by
    obtain ⟨H0, a, dn, us, _, _, _, _, _, _, x, q⟩ := h
    exact q H (by simpa using x)
  | [], _ :: _, h, _, _ => by simp [initFs] at h
  | f :: fl, [], h, _, _ => by simp [initFs] at h
  | f :: fl, st :: sts, h, nd, hf => by
    cases st with
    | Assign ts e p4 =>
      have key : ∃ p1 p2 p3, ts = [.Attribute (.Name "self" p1) f p2] ∧ e = .Name f p3 ∧ initFs fl sts = true := by
        unfold initFs at h
        split at h
        · rename_i e1 _; cases e1
        · rename_i e1 e2
          cases e1
          cases e2
          simp only [Bool.and_eq_true, decide_eq_true_eq] at h
          obtain ⟨rfl, rfl, rfl, h⟩ := h
          exact ⟨_, _, _, rfl, rfl, h⟩
        · cases h
      obtain ⟨p1, p2, p3, rfl, rfl, hr⟩ := key
      obtain ⟨no, ⟨j, hj⟩, hv, d1, d2⟩ := hf f (.head _)
      have nd' := List.nodup_cons.mp nd
      refine PSs.of (pss_cons (ps_ost (pe_var h0 hs) (pe_var hj hv d1 d2)) (init_rest T h0 hs hr nd'.2 fun g hg => hf g (.tail _ hg))) fun D σ H h => ?_
      obtain ⟨H0, a, dn, us, s0, ea, ul, at_, sz, fr, x, q⟩ := h
      cases us with
      | nil => cases ul
      | cons u us =>
        obtain ⟨v, e1, e2⟩ := at_ 0 j f rfl hj
        have e1 : u = v := Option.some.inj e1
        subst e1
        refine ⟨u, e2, .ref a, s0, a, C, rfl, T, no, ?_⟩
        have sz' : (dn ++ [(f, u)]).length + fl.length ≤ 900 := by simp only [List.length_append, List.length_cons, List.length_nil] at sz ⊢; omega
        have hf0 := fr f (.head _)
        have fr' : ∀ g ∈ fl, (dn ++ [(f, u)]).lookup g = none := fun g hg => by
          rw [look_snoc g f u hf0, if_neg (fun (z : g = f) => nd'.1 (z ▸ hg))]
          exact fr g (.tail _ hg)
        have rest : ∀ H1, XSt H0 a C (dn ++ [(f, u)]) H1 → tI X.N C fl D σ H1 := fun H1 x1 =>
          ⟨H0, a, dn ++ [(f, u)], us, s0, ea, by simpa using ul, fun i k g hg hk => by
            obtain ⟨w, w1, w2⟩ := at_ (i + 1) k g (by simpa using hg) hk
            exact ⟨w, by simpa using w1, w2⟩, sz', fr', x1, fun H' x2 => q H' (by rw [List.append_assoc] at x2; exact x2)⟩
        rcases x with ⟨rfl, rfl⟩ | ⟨d, fs, x1, x2, x3, x4, x5, x6, x7, x8⟩
        · refine .inl ⟨ea, fun dx hdx ne => rest _ (.inr ⟨dx, _, upd_same, ?_, hdx, ne, fun b hb hd => ?_, Nat.le_refl _, by simp, fun g => rfl⟩)⟩
          · rw [upd_ne ne]; exact upd_same
          · rw [upd_ne hb, upd_ne hd]
        · refine .inr ⟨d, fs, x1, x2, ?_, rest _ (.inr ⟨d, _, ?_, upd_same, x3, x4, fun b hb hd => ?_, ?_, by simp, fun g => ?_⟩)⟩
          · simp only [List.length_cons] at sz; omega
          · rw [upd_ne (Ne.symm x4)]; exact x1
          · rw [upd_ne hd]; exact x5 b hb hd
          · simp only [List.length_append, List.length_cons, List.length_nil]; omega
          · rw [lookup_put, look_snoc g f u hf0, x8 g]
    | _ => simp [initFs] at h
/-- B.__init__(self, ..), B a class of the text that has ValueError's -/
theorem pe_binit {X : Cx} {B : Addr} {x : Str} {mc : Value} {e : Expr} {es : List Expr} {ta : TA} {p1 p2 pos : Pos} {pl : Sem Bool} (hg : Gl X x) (hm : X.mg x = some (.ref B)) (hd : (x == ("__debug__" : Str)) = false) (r : ClX.CRead X.K B mc) (at_ : PySem.W.findCls X.K (.ref B) mc "__init__" = some (.val (.builtin "ValueError.__init__"))) (ha : PA X (e :: es) ta)
    (hc : eval (.Call (.Attribute (.Name x p1) "__init__" p2) (e :: es) [] pos) X.env = (do
      let ov ← eval (.Name x p1) X.env
      standAt p2.atName
      let (f, first) ← holding [ov] (getMethod ov "__init__" pl)
      callWith pos f first (backTo pos (starEach (e :: es) X.env)) (backToKw pos (keywordEach [] X.env))) := by rfl)
    (he : starEach (e :: es) X.env = (false, eval e X.env) :: starEach es X.env := by rfl) (hpl : (backTo pos (starEach es X.env)).any (·.1) = false := by rfl) :
    PE X (.Call (.Attribute (.Name x p1) "__init__" p2) (e :: es) [] pos) (tVeI X.K ta) := ⟨fun pins s σ H Q I h => by
  refine PySem.W.methodCall_KW (ld_glob I hg hm (PySem.W.method_cls I.kIn r.ga (PySem.W.cls_value I.kIn r.rd at_ rfl (PyProof.Rows.callWith_method1 (thn (ha.run pos pins _ σ H _ (I.tok _) h) fun us s1 z => ?_) he hpl))) hd) hc
  obtain ⟨vs, H1, J, rv, a, C, ws, ev, hl, T, ea, q⟩ := z
  subst ev
  cases rv with
  | cons ra rw =>
    obtain rfl := ra
    exact oinit_ok T J ea (by have := rw.length; rw [sizeLine_eq]; omega) fun s' J' => ⟨.non, H1, J', rfl, q⟩⟩
/-- the text of such an __init__ -/
def initB (B : Str) (fn : List Str) (sc : Scope) : List Stmt → Bool
  | .Expr (.Call (.Attribute (.Name x _) m ap) [.Name s _, .Constant (.str _) _ _] [] cp) _ :: r => (ap.endLine == cp.line) && decide (x = B) && (decide (m = "__init__") && (decide (s = "self") && ((match sc.names.lookup B with | some .globalImplicit => true | _ => false) && initFs fn r)))
  | _ => false
theorem init_body {X : Cx} {C B : Addr} {b : Str} {mc : Value} {fn : List Str} {sts : List Stmt} (h : initB b fn X.env.scope sts = true) (T : OexC X.K C) (hN : X.N = ("self" : Str) :: fn) (nd : fn.Nodup) (vis : ∀ x ∈ X.N, Vis X.env.scope x) (hm : X.mg b = some (.ref B)) (hd : (b == ("__debug__" : Str)) = false)
    (r : ClX.CRead X.K B mc) (at_ : PySem.W.findCls X.K (.ref B) mc "__init__" = some (.val (.builtin "ValueError.__init__"))) (hf : ∀ f ∈ fn, PySem.W.findIn X.K (.ref C) f = some none ∧ (f == ("__debug__" : Str)) = false ∧ (f == ("__classdict__" : Str)) = false) :
    PSs X sts (fun D σ H => ∃ a, σ[0]? = some (some (.ref a)) ∧ H a = some (exo a C none) ∧ tI X.N C fn D σ H) := by
  have h0 : X.N[0]? = some ("self" : Str) := by rw [hN] <;> rfl
  have vs : Vis X.env.scope "self" := vis _ (by rw [hN]; exact .head _)
  cases sts with
  | nil => simp [initB] at h
  | cons st sts =>
    have key : ∃ p1 p2 p3 m k p4 p5 p6, st = .Expr (.Call (.Attribute (.Name b p1) "__init__" p2) [.Name "self" p3, .Constant (.str m) k p4] [] p5) p6 ∧ (p2.endLine == p5.line) = true ∧ X.env.scope.names.lookup b = some .globalImplicit ∧ initFs fn sts = true := by
      unfold initB at h
      split at h
      · rename_i e
        cases e
        simp only [Bool.and_eq_true, decide_eq_true_eq] at h
        obtain ⟨⟨hl, rfl⟩, rfl, rfl, hg, h⟩ := h
        refine ⟨_, _, _, _, _, _, _, _, rfl, hl, ?_, h⟩
        split at hg <;> first | assumption | cases hg
      · cases h
    obtain ⟨p1, p2, p3, m, k, p4, p5, p6, rfl, hl, hg, hr⟩ := key
    refine PSs.of (pss_cons (ps_expr (pe_binit hg hm hd r at_ (pa_cons (pe_var h0 vs) (pa_cons pe_str pa_nil)) (ht_of rfl rfl hl))) (init_rest T h0 vs hr nd fun f hfn => ?_)) fun D σ H q => ?_
    · obtain ⟨a1, a2, a3⟩ := hf f hfn
      refine ⟨a1, ?_, vis f (by rw [hN]; exact .tail _ hfn), a2, a3⟩
      obtain ⟨j, hj, e⟩ := List.getElem_of_mem hfn
      exact ⟨j + 1, by rw [hN, List.getElem?_cons_succ, List.getElem?_eq_getElem hj, e]⟩
    · obtain ⟨a, s0, ea, q⟩ := q
      exact ⟨.ref a, s0, a, C, [.str m], rfl, Nat.le_of_ble_eq_true rfl, T, ea, q⟩
theorem init_start {C : Addr} {fn : List Str} {vs : List V} {H : Hp} {Q : VK} {E : XK} (hl : fn.length ≤ 900) (nd : (("self" : Str) :: fn).Nodup) (h : spI C fn vs H Q E) :
    ∃ a, (L2.start (("self" : Str) :: fn) vs)[0]? = some (some (.ref a)) ∧ H a = some (exo a C none) ∧ tI (("self" : Str) :: fn) C fn { nx := fun _ H' => Q .non H', rt := Q } (L2.start (("self" : Str) :: fn) vs) H := by
  obtain ⟨a, us, rfl, ul, ea, q, q0⟩ := h
  have s0 : (L2.start (("self" : Str) :: fn) (.ref a :: us))[0]? = some (some (.ref a)) := by simp [L2.start]
  refine ⟨a, s0, ea, H, a, [], us, s0, ea, ul, fun i j f hi hj => ?_, by simpa using hl, fun f _ => rfl, .inl ⟨rfl, rfl⟩, fun H' x => ?_⟩
  · have hi' : (("self" : Str) :: fn)[i + 1]? = some f := by simpa using hi
    have hlt := (List.getElem?_eq_some_iff.mp hi').1
    have hij : i + 1 = j := nodup_ix nd hi' hj
    subst hij
    have hu : i < us.length := by simp at hlt; omega
    refine ⟨us[i], List.getElem?_eq_getElem hu, ?_⟩
    unfold L2.start
    rw [List.getElem?_append_left (by simp; omega)]
    simp [hu]
  · rcases x with ⟨x1, rfl⟩ | ⟨d, fs, x1, x2, x3, x4, x5, x6, x7, x8⟩
    · cases fn with
      | nil => exact q0 rfl
      | cons f fn => cases us with
        | nil => cases ul
        | cons u us => cases x1
    · exact q H' d fs x1 x2 x3 x4 x5 fun f => by rw [x8 f]; rfl
end OM
namespace OM
open PySem PySem.Spec PyProof.Rows L2
/-- what the written part says of an exception class of the text -/
structure XcK (K : PySem.W.Frag) (C : Addr) (fn : List Str) : Prop where
  ox : OexC K C
  xf : XfC K C
  cl : (PySem.W.clsIn K C).isSome = true
  ac : PySem.W.findIn K (.ref C) "__class__" = some (some (.builtin "object.__class__"))
  sp : PySem.W.specialIn K (.builtin "object.__class__") "__get__" = some (some (.builtin "getset_descriptor.__get__"))
  tk : PySem.W.takesIn K (.builtin "object.__class__") = some true
  ob : PySem.W.mroIn K C (.type "object") = some true
  no : ∀ f ∈ fn, PySem.W.findIn K (.ref C) f = some none
/-- .. and how it is made -/
structure XcI (G : GX) (X : Cx) (c : Str) (fn : List Str) : Prop where
  k : XcK G.K (G.cl c) fn
  mg : G.mg c = some (.ref (G.cl c))
  nd : fn.Nodup
  ini : ∃ fI fd k, PySem.W.findIn G.K (.ref (G.cl c)) "__init__" = some (some (.ref fI)) ∧ PySem.W.typeIn G.K (.ref fI) = some (.type "function") ∧ FnOk X.prog X.w X.K X.mg X.base (L2.CX X.prog X.w) k fI fd (("self" : Str) :: fn) (spI (G.cl c) fn) ∧ Room (k + 1) X.A ∧ Binds X.K fd (("self" : Str) :: fn) []
theorem passNo {X : Cx} : Passes (L2.CX X.prog X.w) X (fun _ _ _ => False) := fun _ _ _ _ _ _ _ z => by
  obtain ⟨_, _, _, _, _, _, _, _, _, _, _, _, z⟩ := z
  exact z.elim
section
variable {G : GX} {Ww : WX} {C : Calls} {X : Cx}
theorem zip_rel {W : Wl} : ∀ {fn : List Str} {ds : List D} {vs : List V} {f : Str} {e : D}, RelL G W ds vs → lookK fn ds f = some e → ∃ v, (fn.zip vs).lookup f = some v ∧ Rel G W e v
  | fn, ds, vs, f, e, r, h => let ⟨v, a, _, b⟩ := lookK_zip r h; ⟨v, a, b⟩
theorem sm_raise {c : Str} {fn : List Str} {e : Expr} {es : List Expr} {xs : List Ex} {p pos pos' : Pos} (hK : X.K = G.K) (hmg : X.mg = G.mg) (hc : X.calm = true) (tk : Takes X Ww) (I : XcI G X c fn) (hg : Gl X c) (hd : (c == ("__debug__" : Str)) = false) (hne : fn ≠ []) (hl : fn.length ≤ 900) (ha : PA X (e :: es) (RA G Ww C xs)) (hs : noStar e = true) (hss : es.all noStar = true) :
    PS X (.Raise (some (.Call (.Name c p) (e :: es) [] pos)) none pos') (RS G Ww C (.raise c fn xs)) := by
  obtain ⟨fI, fd, k, i1, i2, i3, i4, i5⟩ := I.ini
  refine PS.of (ps_raise hc tk (pmk_oex (dvs := []) (ds := []) (by rw [hK]; exact I.k.ox) (by rw [hK]; exact i1) (by rw [hK]; exact i2) i3 i4 i5 .nil passNo hg (by rw [hmg]; exact I.mg) ha hd (star_of hs) (back_any.trans (star_any hss)))) fun D σ H h => ?_
  obtain ⟨W, φ, rfl, f, s, h⟩ := h
  refine RA.step f s (wpS_toS f h) fun ds W1 vs q x1 f1 s1 r1 => ?_
  have q' : wpS G Ww W D (if ds.length = fn.length then some (.exc ⟨c, fn, ds⟩ φ W1.st) else none) := q
  by_cases hz : ds.length = fn.length
  · rw [if_pos hz] at q'
    refine ⟨by rw [← r1.length, hz]; omega, fun a na => ⟨a, vs, by rw [List.append_nil], by rw [← r1.length, hz], upd_same, fun H' d fs h1 h2 h3 h4 h5 h6 => ?_, fun z => absurd z hne⟩⟩
    have hd1 : W1.H d = none := by rw [upd_ne h4] at h3; exact h3
    refine ⟨rfl, d, fs, h1, h2, hd1, ?_⟩
    have eH : upd (del H' a) d (.xd fs) = (W1.lay d (.xd fs)).H := by
      funext b
      show upd (del H' a) d (.xd fs) b = upd W1.H d (.xd fs) b
      by_cases hb : b = d
      · rw [hb, upd_same, upd_same]
      · rw [upd_ne hb, upd_ne hb]
        by_cases hba : b = a
        · rw [hba, del_same, na]
        · rw [del_ne hba, h5 b hba hb, upd_ne hba]
    rw [eH]
    have ex := W1.lay_ext (o := .xd fs) hd1
    refine (show ∀ W2 σ2 cls d, W2.st = W1.st → Ext W W2 → SRel G W2 → FRel G W2 φ σ2 → XRel G W2 ⟨c, fn, ds⟩ cls d → Ww cls d σ2 W2.H from q') (W1.lay d (.xd fs)) σ _ _ rfl (x1.trans ex) (Wl.lay_s s1 hd1) (f1.ext ex) ⟨rfl, .inr ⟨d, fs, rfl, upd_same, Wl.notT s1 hd1, fun g e0 he => ?_⟩⟩
    obtain ⟨v, a1, a2⟩ := zip_rel r1 he
    exact ⟨v, (h6 g).trans a1, a2.ext ex⟩
  · rw [if_neg hz] at q'; exact q'.elim
end
/-- the classes that a clause names; what is known of them -/
structure XTb where
  xs : List (Str × List Str)
  xp : List ((Str × Str) × Bool)
/-- a name's value -/
def NmV (G : GX) (y : Str) (u : Value) : Prop := G.mg y = some u ∨ (G.mg y = none ∧ bootBuiltins y = some u ∧ y ≠ "__name__")
structure XTok (G : GX) (T : XTb) : Prop where
  k : ∀ c fn, T.xs.lookup c = some fn → XcK G.K (G.cl c) fn
  p : ∀ c y b, T.xp.lookup (c, y) = some b → ∃ u v, NmV G y u ∧ RelV v u ∧ (∀ w, RelV v w → w = u) ∧ PySem.W.exmOne G.K (.ref (G.cl c)) u = some b ∧ PySem.W.kitOne G.K (.ref (G.cl c)) u = some b
/-- the suite's reading: cs what is handled, nm its slot -/
def RX (G : GX) (cs : List Str) (nm : Option Nat) (a : Addr) (cls : Value) (d : Option Addr) (e : SX) : TE := fun σ H Q => ∃ W x r, W.H = H ∧ SRel G W ∧ XRel G W x cls d ∧ x.cls ∈ cs ∧ (∀ i, nm = some i → σ[i]? = some (some (.ref a))) ∧ evX x e = some r ∧ Lf G W r W.st Q
def RXs (G : GX) (cs : List Str) (nm : Option Nat) (a : Addr) (cls : Value) (d : Option Addr) (es : List SX) : TA := fun σ H Q => ∃ W x rs, W.H = H ∧ SRel G W ∧ XRel G W x cls d ∧ x.cls ∈ cs ∧ (∀ i, nm = some i → σ[i]? = some (some (.ref a))) ∧ evXs x es = some rs ∧ ∀ W' vs, W'.st = W.st → Ext W W' → SRel G W' → RelL G W' rs vs → Q vs W'.H
/-- the suite's context -/
structure SuX (G : GX) (T : XTb) (N : List Str) (sc : Scope) (X : Cx) (cs : List Str) (nm : Option Nat) (a : Addr) (oe : Obj) (cls : Value) (d : Option Addr) : Prop where
  K : X.K = G.K
  mg : X.mg = G.mg
  hN : X.N = N
  sc : X.env.scope = sc
  fn : ∀ x, X.fn x = true
  nd : N.Nodup
  t : XTok G T
  z : Zc cls d oe
  f : ∃ vs, oe.data = .fields vs
/-- the name of the exception -/
def xnB (N : List Str) (sc : Scope) (nm : Option Nat) (y : Str) : Bool := match nm with
  | some i => decide (N[i]? = some y) && ((match sc.names.lookup y with | some .local => true | _ => false) && (!(y == ("__debug__" : Str)) && !(y == ("__classdict__" : Str))))
  | none => false
def glB (sc : Scope) (y : Str) : Bool := (match sc.names.lookup y with | some .globalImplicit => true | _ => false) && !(y == ("__debug__" : Str))
mutual
def chkX (T : XTb) (N : List Str) (sc : Scope) (bi : Bool) (cs : List Str) (nm : Option Nat) : SX → Expr → Bool
  | .cst .non, .Constant .none _ _ => true
  | .cst (.bl b), .Constant (.bool b') _ _ => b == b'
  | .cst (.int i), .Constant (.int i') _ _ => i == i'
  | .cst (.str x), .Constant (.str x') _ _ => (x == x') && (PySem.PyData.strOk x && decide (x.length ≤ 1000000))
  | .fld f, .Attribute (.Name y _) g _ => (f == g) && (xnB N sc nm y && cs.all fun c => match T.xs.lookup c with | some fn => fn.contains f | none => false)
  | .isx ks, .Call (.Name b _) [.Name y _, .Name z _] [] _ => (b == ("isinstance" : Str)) && (bi && (glB sc b && (xnB N sc nm y && (glB sc z && cs.all fun c => (T.xs.lookup c).isSome && decide (T.xp.lookup (c, z) = some (ks.contains c))))))
  | .tup es, .Tuple xs _ _ => decide (es.length ≤ 64) && chkXs T N sc bi cs nm es xs
  | .lst es, .List xs _ => decide (es.length ≤ 64) && chkXs T N sc bi cs nm es xs
  | .and e1 e2, .BoolOp .And [x1, x2] _ => chkX T N sc bi cs nm e1 x1 && chkX T N sc bi cs nm e2 x2
  | _, _ => false
def chkXs (T : XTb) (N : List Str) (sc : Scope) (bi : Bool) (cs : List Str) (nm : Option Nat) : List SX → List Expr → Bool
  | [], [] => true
  | e :: es, x :: xs => noStar x && (chkX T N sc bi cs nm e x && chkXs T N sc bi cs nm es xs)
  | _, _ => false
end
section
variable {G : GX} {T : XTb} {N : List Str} {sc : Scope} {X : Cx} {cs : List Str} {nm : Option Nat} {a : Addr} {oe : Obj} {cls : Value} {d : Option Addr} {pn : List (Addr × Obj)}
theorem xnB_ok {y : Str} (s : SuX G T N sc X cs nm a oe cls d) (h : xnB N sc nm y = true) : ∃ i, nm = some i ∧ X.N[i]? = some y ∧ Vis X.env.scope y ∧ (y == ("__debug__" : Str)) = false ∧ (y == ("__classdict__" : Str)) = false := by
  unfold xnB at h
  split at h
  · rename_i i
    simp only [Bool.and_eq_true, decide_eq_true_eq, Bool.not_eq_true'] at h
    obtain ⟨h1, h2, h3, h4⟩ := h
    refine ⟨i, rfl, by rw [s.hN]; exact h1, ?_, h3, h4⟩
    unfold Vis
    rw [s.sc]
    split at h2 <;> first | exact .inl (by assumption) | cases h2
  · cases h
theorem glB_ok {y : Str} (s : SuX G T N sc X cs nm a oe cls d) (h : glB sc y = true) : Gl X y ∧ (y == ("__debug__" : Str)) = false := by
  unfold glB at h
  rw [Bool.and_eq_true, Bool.not_eq_true'] at h
  refine ⟨?_, h.2⟩
  show X.env.scope.names.lookup y = some .globalImplicit
  rw [s.sc]
  have h1 := h.1
  split at h1 <;> first | assumption | cases h1
/-- the read of a name that holds a class -/
theorem pe_nmv {y : Str} {u : Value} {v : V} {p : Pos} (hg : Gl X y) (hd : (y == ("__debug__" : Str)) = false) (h : NmV G y u) (hmg : X.mg = G.mg) (r : RelV v u) : PE X (.Name y p) (tC v) := ⟨fun pins s σ H Q I q => by
  rcases h with h | ⟨h1, h2, h3⟩
  · exact ld_glob I hg (by rw [hmg]; exact h) ⟨v, H, I, r, q⟩ hd
  · exact ld_blt I hg (by rw [hmg]; exact h1) h2 ⟨v, H, I, r, q⟩ h3 hd⟩
/-- isinstance of the exception that a suite handles -/
theorem call_isx {C : Addr} {v : V} {u : Value} {b : Bool} {fn : List Str} (k : XcK X.K C fn) (hz : Zc cls d oe) (hf : ∃ vs, oe.data = .fields vs) (hc : cls = .ref C) (hu : ∀ w, RelV v w → w = u) (e : PySem.W.kitOne X.K (.ref C) u = some b) :
    CallR (X.suite a ((a, oe) :: pn)) (.builtin "isinstance") (fun xs H Q => xs = [.ref a, v] ∧ (∀ dd, d = some dd → ∃ fs, H dd = some (.xd fs)) ∧ Q (.bl b) H) := by
  intro pins s σ H xs us Q I r h
  obtain ⟨rfl, hd, q⟩ := h
  cases r with
  | cons rx rr => cases rr with
    | cons rt rr => cases rr with
      | nil =>
        obtain rfl := rx
        have ec := hu _ rt
        subst ec
        obtain ⟨hget, _⟩ := I.pin (a, oe) (List.mem_append_left _ (.head _))
        obtain ⟨vs, hv⟩ := hf
        obtain ⟨z1, z2⟩ := hz
        have J : ∃ od, PySem.W.InstAt s.heap a oe C od := by
          have hn : PySem.W.notCls oe = true := by unfold PySem.W.notCls; rw [hv] <;> rfl
          cases d with
          | none => exact ⟨none, hget, z1.trans hc, hn, by rw [z2]; trivial⟩
          | some dd =>
            obtain ⟨fs, hfs⟩ := hd dd rfl
            obtain ⟨mA, hns, _⟩ := show ObjOk X.prog X.w H s.heap dd (.xd fs) from I.hok dd _ hfs
            obtain ⟨od, ho, _⟩ := lookIn_ns hns
            exact ⟨some od, hget, z1.trans hc, hn, by rw [z2]; exact ho⟩
        obtain ⟨od, J⟩ := J
        exact PySem.W.kia_one (PySem.W.kitx_exc k.cl k.xf.ga k.xf.gg k.xf.exC k.ac k.sp k.tk k.ob) I.kIn J e nofun fun tk => ⟨.bl b, H, I.kept (t' := tk) fun _ _ z => z, rfl, q⟩
theorem XRel.dict {W : Wl} {x : Xc} (r : XRel G W x cls d) : ∀ dd, d = some dd → ∃ fs, W.H dd = some (.xd fs) := fun dd e => by
  rcases r.2 with ⟨_, z⟩ | ⟨d2, fs, z, h, _⟩
  · rw [z] at e; cases e
  · rw [z] at e; cases e; exact ⟨fs, h⟩
theorem pe_cst {e : Expr} {r : D} {v : V} (he : PE (X.suite a ((a, oe) :: pn)) e (tC v)) (hr : ∀ W, Rel G W r v) : PE (X.suite a ((a, oe) :: pn)) e (RX G cs nm a cls d (.cst r)) := PE.of he fun σ H Q h => by
  obtain ⟨W, x, r', rfl, s, _, _, _, e, l⟩ := h
  cases e
  exact l W v rfl (.refl W) s (hr W)
mutual
theorem chkX_ok (s : SuX G T N sc X cs nm a oe cls d) {bi : Bool} (hb : bi = true → G.mg "isinstance" = none) : ∀ {e : SX} {ex : Expr}, chkX T N sc bi cs nm e ex = true → PE (X.suite a ((a, oe) :: pn)) ex (RX G cs nm a cls d e)
  | .cst c, ex, h => by
    unfold chkX at h
    split at h
    · rename_i e; cases e; exact pe_cst pe_non fun _ => .non
    · rename_i e; cases e; rw [beq_iff_eq] at h; subst h; exact pe_cst pe_bl fun _ => .bl _
    · rename_i e; cases e; rw [beq_iff_eq] at h; subst h; exact pe_cst pe_int fun _ => .int _
    · rename_i e; cases e
      simp only [Bool.and_eq_true, beq_iff_eq, decide_eq_true_eq] at h
      obtain ⟨rfl, h1, h2⟩ := h
      exact pe_cst pe_str fun _ => .str _ ⟨h1, Nat.le_trans h2 (by decide)⟩
    all_goals first | (rename_i e; cases e; done) | cases h
  | .fld f, ex, h => by
    unfold chkX at h
    split at h
    all_goals first | (rename_i e; cases e; done) | skip
    · rename_i e
      cases e
      simp only [Bool.and_eq_true, beq_iff_eq, List.all_eq_true] at h
      obtain ⟨rfl, h1, h2⟩ := h
      obtain ⟨i, rfl, hi, hv, d1, d2⟩ := xnB_ok s h1
      refine ⟨fun pins s0 σ H Q I q => ?_⟩
      obtain ⟨W, x, r, rfl, sr, xr, hx, hnm, ev, l⟩ := q
      have hc := h2 _ hx
      split at hc
      · rename_i fn hfn
        have k := s.t.k _ _ hfn
        have hmem := List.contains_iff_mem.mp hc
        refine (pe_xf (C := G.cl x.cls) (by rw [s.K]; exact k.xf) (by rw [s.K]; exact k.no _ hmem) s.z s.f (pe_var (X := X.suite a ((a, oe) :: pn)) hi hv d1 d2)).run pins s0 σ W.H Q I ?_
        refine ⟨.ref a, hnm i rfl, rfl, xr.1, ?_⟩
        rcases xr.2 with ⟨z, _⟩ | ⟨dd, fs, z1, z2, _, z4⟩
        · have ev' : lookK x.fn x.fv _ = some r := ev
          rw [z] at ev'
          cases ev'
        · obtain ⟨v, v1, v2⟩ := z4 _ r ev
          exact ⟨dd, fs, v, z1, z2, v1, l W v rfl (.refl W) sr v2⟩
      · cases hc
    · cases h
  | .isx ks, ex, h => by
    unfold chkX at h
    split at h
    all_goals first | (rename_i e; cases e; done) | skip
    · rename_i e
      cases e
      simp only [Bool.and_eq_true, beq_iff_eq, List.all_eq_true, decide_eq_true_eq] at h
      obtain ⟨rfl, h1, h2, h3, h4, h5⟩ := h
      obtain ⟨i, rfl, hi, hv, d1, d2⟩ := xnB_ok s h3
      obtain ⟨g1, _⟩ := glB_ok s h2
      obtain ⟨g2, e2⟩ := glB_ok s h4
      refine ⟨fun pins s0 σ H Q I q => ?_⟩
      obtain ⟨W, x, r, rfl, sr, xr, hx, hnm, ev, l⟩ := q
      obtain ⟨k1, k2⟩ := h5 _ hx
      obtain ⟨fn, hfn⟩ := Option.isSome_iff_exists.mp k1
      have k := s.t.k _ _ hfn
      obtain ⟨u, v, n1, n2, n3, _, n5⟩ := s.t.p _ _ _ k2
      have ev' : r = .bl (decide (x.cls ∈ ks)) := (Option.some.inj ev).symm
      subst ev'
      refine (pe_callB (X := X.suite a ((a, oe) :: pn)) (call_isx (C := G.cl x.cls) (by rw [s.K]; exact k) s.z s.f xr.1 n3 (by rw [s.K]; exact n5)) g1 (by show X.mg _ = _; rw [s.mg]; exact hb h1) PyProof.Rows.boot_isinstance (pa_cons (pe_var hi hv d1 d2) (pa_cons (pe_nmv (X := X.suite a ((a, oe) :: pn)) g2 e2 n1 s.mg n2) pa_nil))).run pins s0 σ W.H Q I ?_
      refine ⟨.ref a, hnm i rfl, rfl, xr.dict, ?_⟩
      have eb : ks.contains x.cls = decide (x.cls ∈ ks) := by rw [List.contains_eq_mem]
      rw [eb]
      exact l W _ rfl (.refl W) sr (.bl _)
    · cases h
  | .tup es, ex, h => by
    unfold chkX at h
    split at h
    all_goals first | (rename_i e; cases e; done) | skip
    · rename_i e
      cases e
      rw [Bool.and_eq_true, decide_eq_true_eq] at h
      refine PE.of (pe_tup (chkXs_ok s hb h.2)) fun σ H Q q => ?_
      obtain ⟨W, x, r, rfl, sr, xr, hx, hnm, ev, l⟩ := q
      obtain ⟨rs, e1, e2⟩ := Option.map_eq_some_iff.mp (show (evXs x es).map D.tup = some r from ev)
      subst e2
      have hl : ∀ {es : List SX} {rs : List D}, evXs x es = some rs → rs.length = es.length := by
        intro es
        induction es with
        | nil => intro rs z; cases z; rfl
        | cons e es ih =>
          intro rs z
          simp only [evXs] at z
          split at z
          · rename_i z1 z2; cases z; rw [List.length_cons, List.length_cons, ih z2]
          · cases z
      refine ⟨W, x, rs, rfl, sr, xr, hx, hnm, e1, fun W' vs a1 a2 a3 a4 => ⟨?_, fun p hp => ?_⟩⟩
      · rw [← a4.length, hl e1, sizeLine_eq]; omega
      · exact l (W'.lay p (.tup vs)) _ a1 (a2.trans (W'.lay_ext hp)) (Wl.lay_s a3 hp) (Wl.lay_tup a3 hp a4)
    · cases h
  | .lst es, ex, h => by
    unfold chkX at h
    split at h
    all_goals first | (rename_i e; cases e; done) | skip
    · rename_i e
      cases e
      rw [Bool.and_eq_true, decide_eq_true_eq] at h
      refine PE.of (pe_lst (chkXs_ok s hb h.2)) fun σ H Q q => ?_
      obtain ⟨W, x, r, rfl, sr, xr, hx, hnm, ev, l⟩ := q
      obtain ⟨rs, e1, e2⟩ := Option.map_eq_some_iff.mp (show (evXs x es).map D.lst = some r from ev)
      subst e2
      have hl : ∀ {es : List SX} {rs : List D}, evXs x es = some rs → rs.length = es.length := by
        intro es
        induction es with
        | nil => intro rs z; cases z; rfl
        | cons e es ih =>
          intro rs z
          simp only [evXs] at z
          split at z
          · rename_i z1 z2; cases z; rw [List.length_cons, List.length_cons, ih z2]
          · cases z
      refine ⟨W, x, rs, rfl, sr, xr, hx, hnm, e1, fun W' vs a1 a2 a3 a4 => ⟨?_, fun p hp => ?_⟩⟩
      · rw [← a4.length, hl e1, sizeLine_eq]; omega
      · exact l (W'.lay p (.lst vs)) _ a1 (a2.trans (W'.lay_ext hp)) (Wl.lay_s a3 hp) (Wl.lay_lst a3 hp a4)
    · cases h
  | .and e1 e2, ex, h => by
    unfold chkX at h
    split at h
    all_goals first | (rename_i e; cases e; done) | skip
    · rename_i e
      cases e
      rw [Bool.and_eq_true] at h
      refine PE.of (pe_and (chkX_ok s hb h.1) (pe_one (chkX_ok s hb h.2))) fun σ H Q q => ?_
      obtain ⟨W, x, r, rfl, sr, xr, hx, hnm, ev, l⟩ := q
      have ev' : (match evX x e1 with
        | some (.bl true) => evX x e2
        | some (.bl false) => some (.bl false)
        | _ => none) = some r := ev
      split at ev'
      · rename_i z
        refine ⟨W, x, .bl true, rfl, sr, xr, hx, hnm, z, fun W' v a1 a2 a3 a4 => ?_⟩
        cases a4
        exact ⟨true, rfl, W', x, r, rfl, a3, xr.ext0 a2.toExt0, hx, hnm, ev', fun W2 v2 b1 b2 b3 b4 => l W2 v2 (b1.trans a1) (a2.trans b2) b3 b4⟩
      · rename_i z
        cases ev'
        refine ⟨W, x, .bl false, rfl, sr, xr, hx, hnm, z, fun W' v a1 a2 a3 a4 => ?_⟩
        cases a4
        exact ⟨false, rfl, l W' _ a1 a2 a3 (.bl _)⟩
      · cases ev'
    · cases h
theorem chkXs_ok (s : SuX G T N sc X cs nm a oe cls d) {bi : Bool} (hb : bi = true → G.mg "isinstance" = none) : ∀ {es : List SX} {xs : List Expr}, chkXs T N sc bi cs nm es xs = true → PA (X.suite a ((a, oe) :: pn)) xs (RXs G cs nm a cls d es)
  | [], [], _ => PA.of pa_nil fun σ H Q q => by
    obtain ⟨W, x, rs, rfl, sr, xr, hx, hnm, ev, l⟩ := q
    cases ev
    exact l W [] rfl (.refl W) sr .nil
  | [], _ :: _, h => by simp [chkXs] at h
  | _ :: _, [], h => by simp [chkXs] at h
  | e :: es, y :: ys, h => by
    simp only [chkXs, Bool.and_eq_true] at h
    obtain ⟨h1, h2, h3⟩ := h
    refine PA.of (pa_cons (chkX_ok s hb h2) (chkXs_ok s hb h3) (star_of h1)) fun σ H Q q => ?_
    obtain ⟨W, x, rs, rfl, sr, xr, hx, hnm, ev, l⟩ := q
    simp only [evXs] at ev
    split at ev
    · rename_i r rs' z1 z2
      cases ev
      refine ⟨W, x, r, rfl, sr, xr, hx, hnm, z1, fun W1 v a1 a2 a3 a4 => ⟨W1, x, rs', rfl, a3, xr.ext0 a2.toExt0, hx, hnm, z2, fun W2 vs b1 b2 b3 b4 => ?_⟩⟩
      exact l W2 (v :: vs) (b1.trans a1) (a2.trans b2) b3 (.cons (a4.ext b2) b4)
    · cases ev
end
end
end OM
namespace OM
open PySem PySem.Spec PyProof.Rows L2
theorem FRel.wipo {G : GX} {W : Wl} {φ : Fr} {σ : L2.St} (f : FRel G W φ σ) (nm : Option Nat) (o : Option V) : FRel G W (wipeO φ nm) (match nm with | none => σ | some i => σ.set i o) := by
  cases nm with
  | none => exact f
  | some i =>
    refine ⟨by simp [wipeO, f.len], fun j d h => ?_⟩
    have h' : (φ.set i none)[j]? = some (some d) := h
    by_cases hj : i = j
    · subst hj
      by_cases hi : i < φ.length
      · rw [List.getElem?_set_self hi] at h'; cases h'
      · rw [List.getElem?_eq_none (by simpa using hi)] at h'; cases h'
    · rw [List.getElem?_set_ne hj] at h'
      obtain ⟨v, a, b⟩ := f.at_ j d h'
      exact ⟨v, by rw [List.getElem?_set_ne hj]; exact a, b⟩
/-- a suite's reading -/
def RHs (G : GX) (cs : List Str) (nm : Option Nat) (a : Addr) (cls : Value) (d : Option Addr) (b : List HS) : TS := fun D σ H => ∃ W φ x, W.H = H ∧ FRel G W φ σ ∧ SRel G W ∧ XRel G W x cls d ∧ x.cls ∈ cs ∧ (∀ i, nm = some i → σ[i]? = some (some (.ref a))) ∧ wpS G (fun _ _ _ _ => False) W D (evHs x b φ W.st)
def chkHs (T : XTb) (N : List Str) (sc : Scope) (bi : Bool) (cs : List Str) (nm : Option Nat) : List HS → List Stmt → Bool
  | [], [] => true
  | .asg i e :: r, .Assign [.Name y _] x _ :: st => decide (N[i]? = some y) && ((match sc.names.lookup y with | some .local => true | some .cell => true | _ => false) && (decide (nm ≠ some i) && (noComp x && (chkX T N sc bi cs nm e x && chkHs T N sc bi cs nm r st))))
  | .ret e :: r, .Return (some x) _ :: st => chkX T N sc bi cs nm e x && chkHs T N sc bi cs nm r st
  | .pass :: r, .Pass _ :: st => chkHs T N sc bi cs nm r st
  | _, _ => false
section
variable {G : GX} {T : XTb} {N : List Str} {sc : Scope} {X : Cx} {cs : List Str} {nm : Option Nat} {a : Addr} {oe : Obj} {cls : Value} {d : Option Addr} {pn : List (Addr × Obj)}
theorem chkHs_ok (s : SuX G T N sc X cs nm a oe cls d) {bi : Bool} (hb : bi = true → G.mg "isinstance" = none) : ∀ {b : List HS} {sts : List Stmt}, chkHs T N sc bi cs nm b sts = true → PSs (X.suite a ((a, oe) :: pn)) sts (RHs G cs nm a cls d b)
  | [], [], _ => PSs.of pss_nil fun D σ H h => by
    obtain ⟨W, φ, x, rfl, f, sr, _, _, _, h⟩ := h
    exact (show ∀ W1 σ1, W1.st = W.st → Ext W W1 → SRel G W1 → FRel G W1 φ σ1 → D.nx σ1 W1.H from h) W σ rfl (.refl W) sr f
  | [], _ :: _, h => by simp [chkHs] at h
  | e :: b, [], h => by cases e <;> simp [chkHs] at h
  | .asg i e :: b, st :: sts, h => by
    unfold chkHs at h
    split at h
    all_goals first | (rename_i e _; cases e; done) | (rename_i e; cases e; done) | skip
    · rename_i e1 e2
      cases e1
      cases e2
      simp only [Bool.and_eq_true, decide_eq_true_eq] at h
      obtain ⟨h1, h2, h3, h4, h5, h6⟩ := h
      rename_i y py x pos
      have hN : (X.suite a ((a, oe) :: pn)).N.Nodup := by show X.N.Nodup; rw [s.hN]; exact s.nd
      have hi : (X.suite a ((a, oe) :: pn)).N[i]? = some y := by show X.N[i]? = _; rw [s.hN]; exact h1
      have hl : L2.Loc X.env.scope y := by
        unfold L2.Loc
        rw [s.sc]
        split at h2 <;> first | exact .inl (by assumption) | exact .inr (by assumption) | cases h2
      refine PSs.of (pss_cons (ps_set (X := X.suite a ((a, oe) :: pn)) hN hi hl (chkX_ok s hb h5) (noComp_sw h4 _ _ _) (.inl (s.fn y))) (chkHs_ok s hb h6)) fun D σ H q => ?_
      obtain ⟨W, φ, x0, rfl, f, sr, xr, hx, hnm, w⟩ := q
      have w' : wpS G (fun _ _ _ _ => False) W D (match evX x0 e with
        | some d => evHs x0 b (φ.set i (some d)) W.st
        | none => none) := w
      cases ev : evX x0 e with
      | none => rw [ev] at w'; exact w'.elim
      | some r =>
        rw [ev] at w'
        refine ⟨W, x0, r, rfl, sr, xr, hx, hnm, ev, fun W1 v a1 a2 a3 a4 => ⟨W1, φ.set i (some r), x0, rfl, (f.ext a2).set i a4, a3, xr.ext0 a2.toExt0, hx, fun j ej => ?_, ?_⟩⟩
        · rw [List.getElem?_set_ne (fun z => h3 (by rw [ej, z]))]
          exact hnm j ej
        · rw [a1]
          exact wpS_from a2 w'
    · cases h
  | .ret e :: b, st :: sts, h => by
    unfold chkHs at h
    split at h
    all_goals first | (rename_i e _; cases e; done) | (rename_i e; cases e; done) | skip
    · rename_i e1 e2
      cases e1
      cases e2
      rw [Bool.and_eq_true] at h
      refine PSs.of (pss_cons (ps_ret (chkX_ok s hb h.1)) (chkHs_ok s hb h.2)) fun D σ H q => ?_
      obtain ⟨W, φ, x0, rfl, f, sr, xr, hx, hnm, w⟩ := q
      have w' : wpS G (fun _ _ _ _ => False) W D (match evX x0 e with
        | some d => some (.ret d W.st)
        | none => none) := w
      cases ev : evX x0 e with
      | none => rw [ev] at w'; exact w'.elim
      | some r =>
        rw [ev] at w'
        exact ⟨W, x0, r, rfl, sr, xr, hx, hnm, ev, fun W1 v a1 a2 a3 a4 => (show ∀ W1 v, W1.st = W.st → Ext W W1 → SRel G W1 → Rel G W1 r v → D.rt v W1.H from w') W1 v a1 a2 a3 a4⟩
    · cases h
  | .pass :: b, st :: sts, h => by
    unfold chkHs at h
    split at h
    all_goals first | (rename_i e _; cases e; done) | (rename_i e; cases e; done) | skip
    · rename_i e1 e2
      cases e1
      cases e2
      refine PSs.of (pss_cons ps_pass (chkHs_ok s hb h)) fun D σ H q => ?_
      obtain ⟨W, φ, x0, rfl, f, sr, xr, hx, hnm, w⟩ := q
      exact ⟨W, φ, x0, rfl, f, sr, xr, hx, hnm, w⟩
    · cases h
def chkHd (T : XTb) (N : List Str) (sc : Scope) (bi : Bool) : List Hd → List ExceptHandler → Bool
  | [], [] => true
  | h :: r, .ExceptHandler (some (.Name y _)) n (b₀ :: su) _ :: hs => glB sc y && ((match n, h.nm with | none, none => true | some z, some i => decide (N[i]? = some z) && (match sc.names.lookup z with | some .local => true | _ => false) | _, _ => false) &&
      ((h.cs.all fun c => decide (T.xp.lookup (c, y) = some true)) && ((h.no.all fun c => decide (T.xp.lookup (c, y) = some false)) && (!(h.cs.isEmpty && h.no.isEmpty) && (chkHs T N sc bi h.cs h.nm h.b (b₀ :: su) && chkHd T N sc bi r hs)))))
  | _, _ => false
end
section
variable {G : GX} {T : XTb} {N : List Str} {sc : Scope} {X : Cx} {Ww : WX}
/-- what the clauses of the interpreter ask -/
theorem chkHd_ok (hK : X.K = G.K) (hmg : X.mg = G.mg) (hN : X.N = N) (hsc : X.env.scope = sc) (hfn : ∀ x, X.fn x = true) (nd : N.Nodup) (t : XTok G T) {bi : Bool} (hb : bi = true → G.mg "isinstance" = none) : ∀ {hs : List Hd} {ts : List ExceptHandler}, chkHd T N sc bi hs ts = true →
    ∃ l, HdsX X ts l ∧ ∀ (D : Ends) (W0 W : Wl) (x : Xc) (φ : Fr) (σ : L2.St) (cls : Value) (d : Option Addr), Ext W0 W → SRel G W → FRel G W φ σ → XRel G W x cls d → wpS G Ww W0 D (evHd x hs φ W.st) → wAny X.K Ww D l cls d σ W.H
  | [], [], _ => ⟨[], .nil, fun D W0 W x φ σ cls d e s f xr w => (show ∀ W1 σ1 cls d, W1.st = W.st → Ext W0 W1 → SRel G W1 → FRel G W1 φ σ1 → XRel G W1 x cls d → Ww cls d σ1 W1.H from w) W σ cls d rfl e s f xr⟩
  | [], _ :: _, h => by simp [chkHd] at h
  | _ :: _, [], h => by simp [chkHd] at h
  | h0 :: r, t0 :: ts, h => by
    unfold chkHd at h
    split at h
    all_goals first | (rename_i e _; cases e; done) | (rename_i e; cases e; done) | skip
    · rename_i e1 e2
      cases e1
      cases e2
      rename_i y py n b₀ su pos
      simp only [Bool.and_eq_true, decide_eq_true_eq, List.all_eq_true, Bool.not_eq_true'] at h
      obtain ⟨g1, g2, g3, g4, g5, g6, g7⟩ := h
      obtain ⟨l, hl, step⟩ := chkHd_ok hK hmg hN hsc hfn nd t hb g7
      -- the class that is named
      have hy : ∃ u v, NmV G y u ∧ RelV v u ∧ (∀ c ∈ h0.cs, PySem.W.exmOne G.K (.ref (G.cl c)) u = some true) ∧ (∀ c ∈ h0.no, PySem.W.exmOne G.K (.ref (G.cl c)) u = some false) := by
        have uni : ∀ {u u' : Value}, NmV G y u → NmV G y u' → u = u' := fun {u u'} a b => by
          rcases a with a | ⟨a, a2, _⟩ <;> rcases b with b | ⟨b, b2, _⟩
          · rw [a] at b; exact Option.some.inj b
          · rw [a] at b; cases b
          · rw [b] at a; cases a
          · rw [a2] at b2; exact Option.some.inj b2
        have one : ∃ c b, T.xp.lookup (c, y) = some b := by
          cases e1 : h0.cs with
          | cons c _ => exact ⟨c, true, g3 c (by rw [e1]; exact .head _)⟩
          | nil => cases e2 : h0.no with
            | cons c _ => exact ⟨c, false, g4 c (by rw [e2]; exact .head _)⟩
            | nil => rw [e1, e2] at g5; cases g5
        obtain ⟨c1, b1, k1⟩ := one
        obtain ⟨u, v, q1, q2, _, _, _⟩ := t.p _ _ _ k1
        refine ⟨u, v, q1, q2, fun c hc => ?_, fun c hc => ?_⟩
        · obtain ⟨u', _, q1', _, _, q3', _⟩ := t.p _ _ _ (g3 c hc)
          rw [uni q1 q1']; exact q3'
        · obtain ⟨u', _, q1', _, _, q3', _⟩ := t.p _ _ _ (g4 c hc)
          rw [uni q1 q1']; exact q3'
      obtain ⟨u, v, n1, n2, n3, n4⟩ := hy
      have gl : Gl X y ∧ (y == ("__debug__" : Str)) = false := by
        unfold glB at g1
        rw [Bool.and_eq_true, Bool.not_eq_true'] at g1
        refine ⟨?_, g1.2⟩
        show X.env.scope.names.lookup y = some .globalImplicit
        rw [hsc]
        have q := g1.1
        split at q <;> first | assumption | cases q
      have nm : Names X y u := ⟨gl.1, gl.2, by rw [hmg]; exact n1.imp id fun z => ⟨z.1, z.2.1, z.2.2⟩⟩
      have su_ : ∀ (a : Addr) (oe : Obj) (cls : Value) (d : Option Addr) (pn : List (Addr × Obj)), Zc cls d oe → (∃ vs, oe.data = .fields vs) → PSs (X.suite a ((a, oe) :: pn)) (b₀ :: su) (RHs G h0.cs h0.nm a cls d h0.b) := fun a oe cls d pn z f => chkHs_ok ⟨hK, hmg, hN, hsc, hfn, nd, t, z, f⟩ hb g6
      -- the wish
      have wish : ∀ (D : Ends) (W0 W : Wl) (x : Xc) (φ : Fr) (σ : L2.St) (cls : Value) (d : Option Addr), Ext W0 W → SRel G W → FRel G W φ σ → XRel G W x cls d → wpS G Ww W0 D (evHd x (h0 :: r) φ W.st) → wAny X.K Ww D ((u, h0.nm, fun a cls d => RHs G h0.cs h0.nm a cls d h0.b) :: l) cls d σ W.H := by
        intro D W0 W x φ σ cls d e s f xr w
        have w' : wpS G Ww W0 D (if x.cls ∈ h0.cs then (if slotOk φ h0.nm = true then (match evHs x h0.b (wipeO φ h0.nm) W.st with
            | some (.nx φ' st') => some (.nx (wipeO φ' h0.nm) st')
            | r => r) else none)
          else if x.cls ∈ h0.no then evHd x r φ W.st else none) := w
        by_cases hx : x.cls ∈ h0.cs
        · rw [if_pos hx] at w'
          by_cases hso : slotOk φ h0.nm = true
          case neg => rw [if_neg hso] at w'; exact w'.elim
          rw [if_pos hso] at w'
          refine ⟨true, by rw [hK, xr.1]; exact n3 _ hx, fun _ a na => ?_, fun z => Bool.noConfusion z⟩
          have fw := f.wipo h0.nm (some (.ref a))
          have slot : ∀ i, h0.nm = some i → (putA σ a h0.nm)[i]? = some (some (.ref a)) := fun i ei => by
            rw [ei] at hso ⊢
            have hlt : i < φ.length := of_decide_eq_true hso
            exact List.getElem?_set_self (f.len ▸ hlt)
          refine ⟨W, wipeO φ h0.nm, x, rfl, ?_, s, xr, hx, slot, ?_⟩
          · cases e : h0.nm with
            | none => rw [e] at fw; exact fw
            | some i => rw [e] at fw; exact fw
          · have ends : ∀ {φ' : Fr} {st' : Store}, (∀ W1 σ1, W1.st = st' → Ext W0 W1 → SRel G W1 → FRel G W1 (wipeO φ' h0.nm) σ1 → D.nx σ1 W1.H) → ∀ W1 σ1, W1.st = st' → Ext W W1 → SRel G W1 → FRel G W1 φ' σ1 → (endD D h0.nm).nx σ1 W1.H := by
              intro φ' st' k W1 σ1 b1 b2 b3 b4
              have k' := k W1
              have f2 := b4.wipo h0.nm none
              cases e2 : h0.nm with
              | none => rw [e2] at k' f2; exact k' σ1 b1 (e.trans b2) b3 f2
              | some i => rw [e2] at k' f2; exact k' (σ1.set i none) b1 (e.trans b2) b3 f2
            cases ev : evHs x h0.b (wipeO φ h0.nm) W.st with
            | none => rw [ev] at w'; exact w'.elim
            | some o =>
              rw [ev] at w'
              cases o with
              | nx φ' st' => exact ends w'
              | ret dd st' =>
                intro W1 v b1 b2 b3 b4
                have q := (show ∀ W1 v, W1.st = st' → Ext W0 W1 → SRel G W1 → Rel G W1 dd v → D.rt v W1.H from w') W1 v b1 (e.trans b2) b3 b4
                cases h0.nm <;> exact q
              | brk φ' st' =>
                exfalso
                have : ∀ (b : List HS) (φ0 : Fr), evHs x b φ0 W.st ≠ some (.brk φ' st') := by
                  intro b
                  induction b with
                  | nil => intro φ0 z; cases z
                  | cons b0 bs ih =>
                    intro φ0 z
                    cases b0 with
                    | asg i ee =>
                      simp only [evHs] at z
                      split at z
                      · exact ih _ z
                      · cases z
                    | ret ee =>
                      simp only [evHs] at z
                      split at z <;> cases z
                    | pass => exact ih _ z
                exact this _ _ ev
              | cnt φ' st' =>
                exfalso
                have : ∀ (b : List HS) (φ0 : Fr), evHs x b φ0 W.st ≠ some (.cnt φ' st') := by
                  intro b
                  induction b with
                  | nil => intro φ0 z; cases z
                  | cons b0 bs ih =>
                    intro φ0 z
                    cases b0 with
                    | asg i ee =>
                      simp only [evHs] at z
                      split at z
                      · exact ih _ z
                      · cases z
                    | ret ee =>
                      simp only [evHs] at z
                      split at z <;> cases z
                    | pass => exact ih _ z
                exact this _ _ ev
              | exc x' φ' st' =>
                exfalso
                have : ∀ (b : List HS) (φ0 : Fr), evHs x b φ0 W.st ≠ some (.exc x' φ' st') := by
                  intro b
                  induction b with
                  | nil => intro φ0 z; cases z
                  | cons b0 bs ih =>
                    intro φ0 z
                    cases b0 with
                    | asg i ee =>
                      simp only [evHs] at z
                      split at z
                      · exact ih _ z
                      · cases z
                    | ret ee =>
                      simp only [evHs] at z
                      split at z <;> cases z
                    | pass => exact ih _ z
                exact this _ _ ev
        · rw [if_neg hx] at w'
          by_cases hx2 : x.cls ∈ h0.no
          · rw [if_pos hx2] at w'
            exact ⟨false, by rw [hK, xr.1]; exact n4 _ hx2, fun z => Bool.noConfusion z, fun _ => step D W0 W x φ σ cls d e s f xr w'⟩
          · rw [if_neg hx2] at w'; exact w'.elim
      cases n with
      | none =>
        cases en : h0.nm with
        | some i => rw [en] at g2; cases g2
        | none =>
          rw [en] at su_ wish
          exact ⟨_, .bare nm su_ hl, fun D W0 W x φ σ cls d e s f xr w => wish D W0 W x φ σ cls d e s f xr w⟩
      | some z =>
        cases en : h0.nm with
        | none => rw [en] at g2; cases g2
        | some i =>
          rw [en] at g2 su_ wish
          simp only [Bool.and_eq_true, decide_eq_true_eq] at g2
          have hi : X.N[i]? = some z := by rw [hN]; exact g2.1
          have hl2 : X.env.kindOf z = some .local := by
            have q := g2.2
            show X.env.scope.names.lookup z = some .local
            rw [hsc]
            split at q <;> first | assumption | cases q
          exact ⟨_, .nmd hi hl2 nm su_ hl, fun D W0 W x φ σ cls d e s f xr w => wish D W0 W x φ σ cls d e s f xr w⟩
    · cases h
/-- try: b, any clauses -/
theorem sm_tryx {body : List Stmt} {h₀ : ExceptHandler} {hds : List ExceptHandler} {b : List Sm} {hs : List Hd} {pos : Pos} {C : Calls} (hK : X.K = G.K) (hmg : X.mg = G.mg) (hN : X.N = N) (hsc : X.env.scope = sc) (hfn : ∀ x, X.fn x = true) (nd : N.Nodup) (t : XTok G T) {bi : Bool} (hb : bi = true → G.mg "isinstance" = none)
    (hst : X.stack = X.env :: X.outer) (hf : X.env.frame = some X.env.locals) (tk : Takes X Ww) (h : chkHd T N sc bi hs (h₀ :: hds) = true)
    (hbody : ∀ (W' : WX) (pn : List (Addr × Obj)) (xe : Value → Shared → Prop), Takes (X.tr pn xe) W' → PassesOwn (model X.prog X.w) X.A X.env xe → PSs (X.tr pn xe) body (RSs G W' C b)) :
    PS X (.Try body (h₀ :: hds) [] [] pos) (RS G Ww C (.tryx b hs)) := by
  obtain ⟨l, hl, step⟩ := chkHd_ok (Ww := Ww) hK hmg hN hsc hfn nd t hb h
  refine PS.of (ps_tryA (tb := fun W' => RSs G W' C b) hst hf (by rw [hN]; exact nd) tk hbody hl) fun D σ H q => ?_
  obtain ⟨W, φ, rfl, f, s, w⟩ := q
  refine ⟨W, φ, rfl, f, s, ?_⟩
  have w' : wpS G Ww W D (SR.caught (evSs C b φ W.st) fun x φ st => evHd x hs φ st) := w
  cases ev : evSs C b φ W.st with
  | none => rw [ev] at w'; exact w'
  | some o =>
    rw [ev] at w'
    cases o with
    | exc x φ' st' =>
      intro W1 σ1 cls d a1 a2 a3 a4 a5
      subst a1
      exact step D W W1 x φ' σ1 cls d a2 a3 a4 a5 w'
    | _ => exact w'
end
end OM
namespace OM
open PySem PySem.Spec L2
/-- what is known by name -/
structure Tb where
  nf : Nat
  fx : List (Str × Nat)
  sg : List Sig
  bn : List Str
  cx : List (Str × D)
  cl : List Str
  mt : List ((Str × Str) × Nat)
  na : List (Str × Str)
  mkr : List (Str × Nat)
  N : List Str
  lam : Bool
  /-- exception classes: their fields; pairs (class, class asked of), the answer; those that are made -/
  xs : List (Str × List Str) := []
  xp : List ((Str × Str) × Bool) := []
  xr : List Str := []
def Tb.x (T : Tb) : XTb := ⟨T.xs, T.xp⟩
def Tb.s (T : Tb) (f : Nat) : Sig := T.sg.getD f ⟨false, none, none⟩
structure GlobOk (G : GX) (T : Tb) : Prop where
  fx : ∀ x f, T.fx.lookup x = some f → f < T.nf ∧ G.mg x = some (.ref (G.fns f))
  bn : ∀ x, x ∈ T.bn → G.mg x = none
  cx : ∀ x d, T.cx.lookup x = some d → ∃ u v, G.mg x = some u ∧ RelV v u ∧ ∀ W, Rel G W d v
  mt : ∀ c m f, T.mt.lookup (c, m) = some f → f < T.nf ∧ Meth G.K (G.cl c) m (G.fns f)
  cl : ∀ c, c ∈ T.cl → Cls G.K (G.cl c) ∧ G.mg c = some (.ref (G.cl c))
  na : ∀ c f, (c, f) ∈ T.na → NoAttr G.K (G.cl c) f
  mkr : ∀ c f, T.mkr.lookup c = some f → f < T.nf ∧ Mk G.K (G.cl c) (G.fns f)
  ne : ∀ c f, T.mt.lookup (c, ("__eq__" : Str)) = some f → PySem.W.findIn G.K (.ref (G.cl c)) "__ne__" = some (some (.builtin "object.__ne__")) ∧ InsF G.K (G.cl c)
  xt : XTok G T.x
/-- a context in which the text is read -/
structure Gd (G : GX) (C : Calls) (T : Tb) (sc : Scope) (fnn : Str → Bool) (X : Cx) (Ww : WX) : Prop where
  K : X.K = G.K
  mg : X.mg = G.mg
  N : X.N = T.N
  nd : T.N.Nodup
  calm : X.calm = true
  units : X.A.units + 65 < cLine
  sc : X.env.scope = sc
  fn : X.fn = fnn
  tk : Takes X Ww
  fs : ∀ f, f < T.nf → FnC G C X f (T.s f)
  gl : GlobOk G T
  lam : T.lam = true → LamB G X
  xi : ∀ c fn, c ∈ T.xr → T.xs.lookup c = some fn → XcI G X c fn
mutual
/-- the same plain constant -/
def dEqB : D → D → Bool
  | .non, .non => true
  | .bl a, .bl b => a == b
  | .int a, .int b => a == b
  | .str a, .str b => a == b
  | .tup xs, .tup ys => dEqL xs ys
  | _, _ => false
def dEqL : List D → List D → Bool
  | [], [] => true
  | x :: xs, y :: ys => dEqB x y && dEqL xs ys
  | _, _ => false
end
mutual
theorem dEqB_ok : ∀ {a b : D}, dEqB a b = true → a = b
  | .non, b, h => by cases b <;> first | rfl | (simp [dEqB] at h)
  | .bl _, b, h => by cases b <;> first | (simp [dEqB] at h; rw [h]) | (simp [dEqB] at h)
  | .int _, b, h => by cases b <;> first | (simp [dEqB] at h; rw [h]) | (simp [dEqB] at h)
  | .str _, b, h => by cases b <;> first | (simp [dEqB] at h; rw [h]) | (simp [dEqB] at h)
  | .tup xs, b, h => by
    cases b with
    | tup ys => simp only [dEqB] at h; rw [dEqL_ok h]
    | _ => simp [dEqB] at h
  | .lst _, _, h => by simp [dEqB] at h
  | .dct .., _, h => by simp [dEqB] at h
  | .obj .., _, h => by simp [dEqB] at h
  | .ref _, _, h => by simp [dEqB] at h
  | .fn _, _, h => by simp [dEqB] at h
  | .scr _, _, h => by simp [dEqB] at h
theorem dEqL_ok : ∀ {a b : List D}, dEqL a b = true → a = b
  | [], [], _ => rfl
  | [], _ :: _, h => by simp [dEqL] at h
  | _ :: _, [], h => by simp [dEqL] at h
  | x :: xs, y :: ys, h => by
    have h' : dEqB x y = true ∧ dEqL xs ys = true := by simpa [dEqL] using h
    rw [dEqB_ok h'.1, dEqL_ok h'.2]
end
def isLoc (sc : Scope) (fnn : Str → Bool) (x : Str) : Bool := match sc.names.lookup x with
  | some .local => true
  | some .cell => fnn x
  | _ => false
def isVis (sc : Scope) (x : Str) : Bool := match sc.names.lookup x with
  | some .local => true
  | some .cell => true
  | some .free => true
  | _ => false
def isGl (sc : Scope) (x : Str) : Bool := match sc.names.lookup x with
  | some .globalImplicit => true
  | _ => false
def plainNm (x : Str) : Bool := !(x == ("__debug__" : Str)) && !(x == ("__classdict__" : Str)) && !(x == ("__name__" : Str))
theorem plainNm_ok {x : Str} (h : plainNm x = true) : (x == ("__debug__" : Str)) = false ∧ (x == ("__classdict__" : Str)) = false ∧ x ≠ "__name__" := by
  unfold plainNm at h
  simp only [Bool.and_eq_true, Bool.not_eq_true'] at h
  exact ⟨h.1.1, h.1.2, fun z => by rw [z] at h; simp at h⟩
section
variable {G : GX} {C : Calls} {T : Tb} {sc : Scope} {fnn : Str → Bool} {X : Cx} {Ww : WX}
theorem Gd.vis (g : Gd G C T sc fnn X Ww) {x : Str} (h : isVis sc x = true) : Vis X.env.scope x := by
  unfold isVis at h
  unfold Vis
  rw [g.sc]
  split at h <;> first | exact .inl (by assumption) | exact .inr (.inl (by assumption)) | exact .inr (.inr (by assumption)) | cases h
theorem Gd.loc (g : Gd G C T sc fnn X Ww) {x : Str} (h : isLoc sc fnn x = true) : L2.Loc X.env.scope x ∧ (X.fn x = true ∨ X.env.scope.names.lookup x = some .local) := by
  unfold isLoc at h
  unfold L2.Loc
  rw [g.sc, g.fn]
  split at h
  · rename_i e
    exact ⟨.inl e, .inr e⟩
  · rename_i e
    exact ⟨.inr e, .inl h⟩
  · cases h
theorem Gd.glb (g : Gd G C T sc fnn X Ww) {x : Str} (h : isGl sc x = true) : Gl X x := by
  unfold isGl at h
  show X.env.scope.names.lookup x = some .globalImplicit
  rw [g.sc]
  split at h <;> first | assumption | cases h
theorem Gd.noglb (g : Gd G C T sc fnn X Ww) {x : Str} (h : x ∈ T.bn) : X.mg x = none := by
  rw [g.mg]; exact g.gl.bn x h
end
/-- a built-in name -/
def bnIs (T : Tb) (sc : Scope) (x y : Str) : Bool := (x == y) && isGl sc x && T.bn.contains x && plainNm x
mutual
def chkG (T : Tb) (sc : Scope) (fnn : Str → Bool) : Tg → Expr → Bool
  | .nm i, .Name x _ => decide (T.N[i]? = some x) && isLoc sc fnn x
  | .tp ts, .Tuple es _ _ => chkGs T sc fnn ts es
  | _, _ => false
def chkGs (T : Tb) (sc : Scope) (fnn : Str → Bool) : List Tg → List Expr → Bool
  | [], [] => true
  | t :: ts, e :: es => noStar e && (chkG T sc fnn t e && chkGs T sc fnn ts es)
  | _, _ => false
end
section
variable {G : GX} {C : Calls} {T : Tb} {sc : Scope} {fnn : Str → Bool} {X : Cx} {Ww : WX}
theorem chkGs_len : ∀ {ts : List Tg} {es : List Expr}, chkGs T sc fnn ts es = true → es.length = ts.length ∧ es.all noStar = true
  | [], [], _ => ⟨rfl, rfl⟩
  | [], _ :: _, h => by unfold chkGs at h; cases h
  | _ :: _, [], h => by unfold chkGs at h; cases h
  | t :: ts, e :: es, h => by
    unfold chkGs at h
    simp only [Bool.and_eq_true] at h
    obtain ⟨a, b⟩ := chkGs_len h.2.2
    exact ⟨by simp [a], by rw [List.all_cons, h.1, b] <;> rfl⟩
mutual
theorem chkG_ok (g : Gd G C T sc fnn X Ww) : ∀ (t : Tg) (e : Expr), chkG T sc fnn t e = true → PG X e (RG G t)
  | .nm i, e, h => by
    cases e with
    | Name x p =>
      unfold chkG at h
      simp only [Bool.and_eq_true, decide_eq_true_eq] at h
      obtain ⟨l1, l2⟩ := g.loc h.2
      exact sg_nm (by rw [g.N]; exact g.nd) (by rw [g.N]; exact h.1) l1 l2
    | _ => unfold chkG at h; cases h
  | .tp ts, e, h => by
    cases e with
    | Tuple es k p =>
      unfold chkG at h
      obtain ⟨a, b⟩ := chkGs_len h
      exact sg_tp g.K g.calm (chkGs_ok g ts es h) a b
    | _ => unfold chkG at h; cases h
theorem chkGs_ok (g : Gd G C T sc fnn X Ww) : ∀ (ts : List Tg) (es : List Expr), chkGs T sc fnn ts es = true → PGs X es (RGs G ts)
  | [], [], _ => sgs_nil
  | [], _ :: _, h => by unfold chkGs at h; cases h
  | _ :: _, [], h => by unfold chkGs at h; cases h
  | t :: ts, e :: es, h => by
    unfold chkGs at h
    simp only [Bool.and_eq_true] at h
    exact sgs_cons (chkG_ok g t e h.2.1) (chkGs_ok g ts es h.2.2) h.1
end
end
/-- the checks of one depth -/
structure Ck where
  E : Scope → (Str → Bool) → Expr → Ex → Bool
  B : Scope → (Str → Bool) → Expr → Ex → Bool
  I : Scope → (Str → Bool) → Expr → Expr → Ex → Bool
structure CkOk (T : Tb) (c : Ck) : Prop where
  E : ∀ {sc fnn e ex G C X Ww}, c.E sc fnn e ex = true → Gd G C T sc fnn X Ww → PE X e (RE G Ww C ex)
  B : ∀ {sc fnn e ex G C X Ww}, c.B sc fnn e ex = true → Gd G C T sc fnn X Ww → PT X e (RT G Ww C ex)
  I : ∀ {sc fnn e ex G C X Ww} {tg : Expr}, c.I sc fnn tg e ex = true → Gd G C T sc fnn X Ww → PI X tg e (RI G Ww C ex)
def all2 {α β : Type} (f : α → β → Bool) : List α → List β → Bool
  | [], [] => true
  | a :: as, b :: bs => f a b && all2 f as bs
  | _, _ => false
/-- arguments: no star -/
def ckL (c : Ck) (sc : Scope) (fnn : Str → Bool) (es : List Expr) (xs : List Ex) : Bool := es.all noStar && all2 (c.E sc fnn) es xs
theorem ckL_ok {T : Tb} {c : Ck} (ok : CkOk T c) {sc : Scope} {fnn : Str → Bool} {G : GX} {C : Calls} {X : Cx} {Ww : WX} (g : Gd G C T sc fnn X Ww) : ∀ {es : List Expr} {xs : List Ex}, ckL c sc fnn es xs = true → PA X es (RA G Ww C xs)
  | [], [], _ => sa_nil
  | [], _ :: _, h => by cases h
  | e :: es, [], h => by
    unfold ckL at h
    rw [Bool.and_eq_true] at h
    cases h.2
  | e :: es, x :: xs, h => by
    unfold ckL at h
    rw [Bool.and_eq_true, List.all_cons, Bool.and_eq_true] at h
    have h2 : (c.E sc fnn e x && all2 (c.E sc fnn) es xs) = true := h.2
    rw [Bool.and_eq_true] at h2
    exact sa_cons (ok.E h2.1 g) (ckL_ok ok g (by unfold ckL; rw [h.1.2, h2.2] <;> rfl)) (star_of h.1.1)
theorem ckL_star {c : Ck} {sc : Scope} {fnn : Str → Bool} {es : List Expr} {xs : List Ex} (h : ckL c sc fnn es xs = true) : es.all noStar = true := by
  unfold ckL at h
  rw [Bool.and_eq_true] at h
  exact h.1
def ckO (c : Ck) (sc : Scope) (fnn : Str → Bool) : Option Expr → Option Ex → Bool
  | none, none => true
  | some e, some x => c.E sc fnn e x
  | _, _ => false
theorem ckO_ok {T : Tb} {c : Ck} (ok : CkOk T c) {sc : Scope} {fnn : Str → Bool} {G : GX} {C : Calls} {X : Cx} {Ww : WX} (g : Gd G C T sc fnn X Ww) {o : Option Expr} {x : Option Ex} (h : ckO c sc fnn o x = true) : PO X o (RO G Ww C x) := by
  cases o with
  | none => cases x with
    | none => exact so_none
    | some _ => cases h
  | some e => cases x with
    | none => cases h
    | some x => exact so_some (ok.E h g)
def ownOf (N : List Str) (vs : List Nat) : List (Str × Nat) := vs.map fun i => (N.getD i default, i)
theorem ownOf_snd (N : List Str) (vs : List Nat) : (ownOf N vs).map (·.2) = vs := by
  unfold ownOf
  rw [List.map_map]
  exact List.map_id vs
def fnB (scope : Scope) : Str → Bool := fun x => scope.names.lookup x == some .cell
def ckIfs (c : Ck) (sc : Scope) (fnn : Str → Bool) : List Expr → Option Ex → Bool
  | [], none => true
  | [e], some x => c.B sc fnn e x
  | _, _ => false
def ckC (T : Tb) (c : Ck) (sc : Scope) (fnn : Str → Bool) (elt : Expr) (gs : List Comprehension) (scope : Scope) (t : Tg) (i : Ex) (ec : Option Ex) (ee : Ex) : Bool :=
  match gs with
  | [⟨tg, iter, ifs, a⟩] => decide (a = 0) && (blkC T.N sc scope (ownOf T.N t.slots) && (noSet iter && (c.I sc fnn tg iter i && (chkG T (relS scope sc) (fnB scope) t tg && (ckIfs c (relS scope sc) (fnB scope) ifs ec && c.E (relS scope sc) (fnB scope) elt ee)))))
  | _ => false
theorem Gd.blk {G : GX} {C : Calls} {T : Tb} {sc : Scope} {fnn : Str → Bool} {X : Cx} {Ww : WX} (g : Gd G C T sc fnn X Ww) (scope : Scope) (s : Shared) (H : Hp) (L : Addr) (cl : List (Str × Addr)) (fp : List Addr) : Gd G C T (relS scope sc) (fnB scope) (X.blk s H scope (compEnvC scope cl L X.env) fp) WN :=
  ⟨g.K, g.mg, g.N, g.nd, g.calm, g.units, by rw [← g.sc] <;> rfl, rfl, takes0, fun f hf => ⟨(g.fs f hf).ex⟩, g.gl, fun h => (let q := g.lam h; ⟨q.ex, q.room⟩), fun c fn h1 h2 => let q := g.xi c fn h1 h2; ⟨q.k, q.mg, q.nd, q.ini⟩⟩
structure CompOk (G : GX) (C : Calls) (X : Cx) (Ww : WX) (scope : Scope) (elt tg iter : Expr) (ifs : List Expr) (own : List (Str × Nat)) (t : Tg) (i : Ex) (ec : Option Ex) (ee : Ex) : Prop where
  hi : PI X tg iter (RI G Ww C i)
  blk : BlkOk X.N X.env.scope scope own
  own : own.map (·.2) = t.slots
  hg : ∀ (s : Shared) (H : Hp) (L : Addr) (cl : List (Str × Addr)) (fp : List Addr), PG (X.blk s H scope (compEnvC scope cl L X.env) fp) tg (RG G t)
  ht : ∀ (s : Shared) (H : Hp) (L : Addr) (cl : List (Str × Addr)) (fp : List Addr), PTs (X.blk s H scope (compEnvC scope cl L X.env) fp) ifs (RC G WN C ec)
  he : ∀ (s : Shared) (H : Hp) (L : Addr) (cl : List (Str × Addr)) (fp : List Addr), PE (X.blk s H scope (compEnvC scope cl L X.env) fp) elt (RE G WN C ee)
  hs : ∀ x, foldedSetIterable iter X.env x = pure x
theorem ckC_ok {T : Tb} {c : Ck} (ok : CkOk T c) {sc : Scope} {fnn : Str → Bool} {G : GX} {C : Calls} {X : Cx} {Ww : WX} (g : Gd G C T sc fnn X Ww) {elt : Expr} {gs : List Comprehension} {scope : Scope} {t : Tg} {i : Ex} {ec : Option Ex} {ee : Ex} (h : ckC T c sc fnn elt gs scope t i ec ee = true) :
    ∃ tg iter ifs, gs = [⟨tg, iter, ifs, 0⟩] ∧ CompOk G C X Ww scope elt tg iter ifs (ownOf T.N t.slots) t i ec ee := by
  unfold ckC at h
  split at h
  · rename_i tg iter ifs a
    simp only [Bool.and_eq_true, decide_eq_true_eq] at h
    obtain ⟨h0, h1, h2, h3, h4, h5, h6⟩ := h
    subst h0
    refine ⟨tg, iter, ifs, rfl, ok.I h3 g, ?_, ownOf_snd _ _, fun s H L cl fp => chkG_ok (g.blk scope s H L cl fp) t tg h4, fun s H L cl fp => ?_, fun s H L cl fp => ok.E h6 (g.blk scope s H L cl fp), noSet_ok h2 _⟩
    · rw [g.N, g.sc]
      exact blkOk_by h1
    · unfold ckIfs at h5
      split at h5
      · exact sc_none
      · exact sc_some (ok.B h5 (g.blk scope s H L cl fp))
      · cases h5
  · cases h
/-- dict comprehensions -/
def ckDC (T : Tb) (c : Ck) (sc : Scope) (fnn : Str → Bool) (kx vx : Expr) (gs : List Comprehension) (scope : Scope) (t : Tg) (i : Ex) (ec : Option Ex) (ek ev : Ex) : Bool :=
  match gs with
  | [⟨tg, iter, ifs, a⟩] => decide (a = 0) && (blkC T.N sc scope (ownOf T.N t.slots) && (noSet iter && (c.I sc fnn tg iter i && (chkG T (relS scope sc) (fnB scope) t tg && (ckIfs c (relS scope sc) (fnB scope) ifs ec && (c.E (relS scope sc) (fnB scope) kx ek && c.E (relS scope sc) (fnB scope) vx ev))))))
  | _ => false
theorem ckDC_ok {T : Tb} {c : Ck} (ok : CkOk T c) {sc : Scope} {fnn : Str → Bool} {G : GX} {C : Calls} {X : Cx} {Ww : WX} (g : Gd G C T sc fnn X Ww) {kx vx : Expr} {gs : List Comprehension} {scope : Scope} {pos : Pos} {t : Tg} {i : Ex} {ec : Option Ex} {ek ev : Ex} (h : ckDC T c sc fnn kx vx gs scope t i ec ek ev = true) :
    PE X (.DictComp kx vx gs scope pos) (RE G Ww C (.dcomp t i ec ek ev)) := by
  unfold ckDC at h
  split at h
  · rename_i tg iter ifs a
    simp only [Bool.and_eq_true, decide_eq_true_eq] at h
    obtain ⟨h0, h1, h2, h3, h4, h5, h6, h7⟩ := h
    subst h0
    refine se_dcomp g.K g.calm (by rw [g.N]; exact g.nd) (ok.I h3 g) (by rw [g.N, g.sc]; exact blkOk_by h1) (ownOf_snd _ _) (fun s H L cl fp => chkG_ok (g.blk scope s H L cl fp) t tg h4) (fun s H L cl fp => ?_) (fun s H L cl fp => ok.E h6 (g.blk scope s H L cl fp)) (fun s H L cl fp => ok.E h7 (g.blk scope s H L cl fp)) (noSet_ok h2 _)
    unfold ckIfs at h5
    split at h5
    · exact sc_none
    · exact sc_some (ok.B h5 (g.blk scope s H L cl fp))
    · cases h5
  · cases h
/-- all parameters by position | the last by default | the last by name -/
inductive Sh where | all | last (d : D) | kw (k : Str)
def Sh.ok (sg : Sig) : Sh → Prop
  | .all => sg.full = true
  | .last d => sg.last = some d
  | .kw k => sg.kw = some k
def shB (c : Ck) (sc : Scope) (fnn : Str → Bool) (sg : Sig) (es : List Expr) (kws : List Keyword) (xs : List Ex) : Bool :=
  (kws.isEmpty && (sg.full && ckL c sc fnn es xs)) || ((kws.isEmpty && (match xs.getLast?, sg.last with
    | some (.cst d), some d' => dEqB d d' && ckL c sc fnn es xs.dropLast
    | _, _ => false)) || (match kws, xs.getLast?, sg.kw with
    | [⟨some k, e, _⟩], some y, some k' => (k == k') && (!es.isEmpty && (c.E sc fnn e y && ckL c sc fnn es xs.dropLast))
    | _, _, _ => false))
theorem ckL_nil {c : Ck} {sc : Scope} {fnn : Str → Bool} {es : List Expr} {xs : List Ex} (h : ckL c sc fnn es xs = true) : es = [] → xs = [] := fun e => by
  subst e
  cases xs with
  | nil => rfl
  | cons _ _ => unfold ckL at h; rw [Bool.and_eq_true] at h; cases h.2
theorem snoc_of {α : Type} {xs : List α} {y : α} (h : xs.getLast? = some y) : xs = xs.dropLast ++ [y] := by
  have hne : xs ≠ [] := fun z => by rw [z] at h; cases h
  have e := List.getLast?_eq_some_getLast hne
  rw [h] at e
  rw [Option.some.inj e]
  exact (List.dropLast_concat_getLast hne).symm
section
variable {G : GX} {C : Calls} {T : Tb} {c : Ck} {sc : Scope} {fnn : Str → Bool} {X : Cx} {Ww : WX}
theorem callG_ok (g : Gd G C T sc fnn X Ww) (ok : CkOk T c) {ex : Ex} {xs : List Ex} {K : List D → Store → Res D} {a : Addr} {x : Str} {es : List Expr} {kws : List Keyword} {p pos : Pos} {sg : Sig} (hx : ∀ φ st, evE C ex φ st = (evL C xs φ st).bind K) (cl : Clb G Ww X (.ref a) K sg) (hg : isGl sc x = true) (hp : plainNm x = true) (hm : G.mg x = some (.ref a)) (h : shB c sc fnn sg es kws xs = true) :
    PE X (.Call (.Name x p) es kws pos) (RE G Ww C ex) := by
  have hm' : X.mg x = some (.ref a) := by rw [g.mg]; exact hm
  unfold shB at h
  rw [Bool.or_eq_true, Bool.or_eq_true] at h
  rcases h with h | h | h
  · simp only [Bool.and_eq_true, List.isEmpty_iff] at h
    obtain ⟨rfl, h1, h2⟩ := h
    exact se_callG hx cl h1 (g.glb hg) hm' (ckL_ok ok g h2) (ckL_nil h2) (plainNm_ok hp).1 (ckL_star h2)
  · rw [Bool.and_eq_true, List.isEmpty_iff] at h
    obtain ⟨rfl, h1⟩ := h
    split at h1
    · rename_i d d' e1 e2
      rw [Bool.and_eq_true] at h1
      have ed := dEqB_ok h1.1
      subst ed
      have exs := snoc_of e1
      exact se_callGL (xs := xs.dropLast) (d := d) (fun φ st => by rw [← exs]; exact hx φ st) cl e2 (g.glb hg) hm' (ckL_ok ok g h1.2) (ckL_nil h1.2) (plainNm_ok hp).1 (ckL_star h1.2)
    · cases h1
  · split at h
    · rename_i k e kp y k' e1 e2
      simp only [Bool.and_eq_true, beq_iff_eq, Bool.not_eq_true'] at h
      obtain ⟨rfl, h1, h2, h3⟩ := h
      have exs := snoc_of e1
      exact se_callGK (xs := xs.dropLast) (y := y) (fun φ st => by rw [← exs]; exact hx φ st) cl e2 (g.glb hg) hm' (ckL_ok ok g h3) (fun z => by rw [z] at h1; cases h1) (ok.E h2 g) (plainNm_ok hp).1 (ckL_star h3)
    · cases h
/-- a method's call -/
def meB (T : Tb) (c : Ck) (sc : Scope) (fnn : Str → Bool) (m : Str) (t : List (Str × Nat)) (o : Expr) (apos pos : Pos) (es : List Expr) (kws : List Keyword) (eo : Ex) (xs : List Ex) : Bool :=
  (apos.endLine == pos.line) && (noCall0 o && (c.E sc fnn o eo && (decide (es.length < 28) && ((t.all fun p => T.cl.contains p.1 && decide (T.mt.lookup (p.1, m) = some p.2)) &&
    ((kws.isEmpty && ((t.all fun p => (T.s p.2).full) && ckL c sc fnn es xs)) || (match kws, xs.getLast? with
      | [⟨some k, e, _⟩], some y => (t.all fun p => decide ((T.s p.2).kw = some k)) && (!es.isEmpty && (c.E sc fnn e y && ckL c sc fnn es xs.dropLast))
      | _, _ => false))))))
/-- an own ==, or != -/
def eqoB (T : Tb) (neg : Bool) (t : List (Str × Nat)) (p : CmpOp) : Bool := (match p, neg with
  | .Eq, false => true
  | .NotEq, true => true
  | _, _ => false) && (t.all fun q => T.cl.contains q.1 && (decide (T.mt.lookup (q.1, ("__eq__" : Str)) = some q.2) && (T.s q.2).full))
theorem mem_lookup {β : Type} {a : Str} {b : β} {l : List (Str × β)} (h : l.lookup a = some b) : (a, b) ∈ l := PySem.mem_of_lookup h
theorem eqoB_ok (g : Gd G C T sc fnn X Ww) {neg : Bool} {t : List (Str × Nat)} {p : CmpOp} (h : eqoB T neg t p = true) : p = opN neg ∧ EqOk G C X t T.s := by
  unfold eqoB at h
  rw [Bool.and_eq_true] at h
  refine ⟨?_, fun cn f e => ?_⟩
  · have h1 := h.1
    cases p <;> cases neg <;> first | rfl | cases h1
  · have q := List.all_eq_true.mp h.2 _ (mem_lookup e)
    rw [Bool.and_eq_true, Bool.and_eq_true, decide_eq_true_eq] at q
    obtain ⟨q1, q2, q3⟩ := q
    obtain ⟨q4, q5⟩ := g.gl.mt cn _ f q2
    rw [g.K]
    exact ⟨(g.gl.cl cn (List.contains_iff_mem.mp q1)).1, q5, (g.gl.ne cn f q2).1, g.fs f q4, q3⟩
theorem me_ok (g : Gd G C T sc fnn X Ww) (ok : CkOk T c) {pu : Bool} {m : Str} {t : List (Str × Nat)} {o : Expr} {apos pos : Pos} {es : List Expr} {kws : List Keyword} {eo : Ex} {xs : List Ex} (h : meB T c sc fnn m t o apos pos es kws eo xs = true) : PE X (.Call (.Attribute o m apos) es kws pos) (RE G Ww C (.meth pu m t eo xs)) := by
  unfold meB at h
  rw [Bool.and_eq_true, Bool.and_eq_true, Bool.and_eq_true, Bool.and_eq_true, Bool.and_eq_true, Bool.or_eq_true] at h
  obtain ⟨h1, h2, h3, h4, h5, h6⟩ := h
  rw [decide_eq_true_eq] at h4
  have base : ∀ cn f, t.lookup cn = some f → Cls X.K (G.cl cn) ∧ Meth X.K (G.cl cn) m (G.fns f) ∧ FnC G C X f (T.s f) := fun cn f e => by
    have q := List.all_eq_true.mp h5 _ (mem_lookup e)
    rw [Bool.and_eq_true, decide_eq_true_eq] at q
    obtain ⟨q1, q2⟩ := g.gl.mt cn m f q.2
    rw [g.K]
    exact ⟨(g.gl.cl cn (List.contains_iff_mem.mp q.1)).1, q2, g.fs f q1⟩
  rcases h6 with h6 | h6
  · simp only [Bool.and_eq_true, List.isEmpty_iff] at h6
    obtain ⟨rfl, h7, h8⟩ := h6
    refine se_meth (sgs := T.s) g.K g.tk (ok.E h3 g) (fun cn f e => ?_) (ckL_ok ok g h8) (ckL_nil h8) (ckL_star h8) (ht_of h2 (form_ok (ckL_star h8) (.inl rfl) h4) h1)
    obtain ⟨a, b, d⟩ := base cn f e
    exact ⟨a, b, d, List.all_eq_true.mp h7 _ (mem_lookup e)⟩
  · split at h6
    · rename_i k e kp y e1
      simp only [Bool.and_eq_true, Bool.not_eq_true'] at h6
      obtain ⟨h7, h8, h9, h10⟩ := h6
      have exs := snoc_of e1
      have z := se_methK (pu := pu) (sgs := T.s) (kp := kp) (y := y) (pos := pos) (apos := apos) g.K g.tk (ok.E h3 g) (fun cn f e => ⟨(base cn f e).1, (base cn f e).2.1, (base cn f e).2.2, of_decide_eq_true (List.all_eq_true.mp h7 _ (mem_lookup e))⟩) (ckL_ok ok g h10) (fun z => by rw [z] at h8; cases h8) (ok.E h9 g) (ckL_star h10) (ht_of h2 (form_ok (ckL_star h10) (.inr ⟨k, e, kp, rfl⟩) h4) h1)
      rw [← exs] at z
      exact z
    · cases h6
end
def opB : BO → Operator → Bool
  | .add, .Add | .sub, .Sub | .mul, .Mult | .div, .FloorDiv | .mod, .Mod | .pow, .Pow => true
  | _, _ => false
theorem opB_ok {o : BO} {p : Operator} (h : opB o p = true) : p = o.op := by
  cases o <;> cases p <;> first | rfl | cases h
def opC : CO → CmpOp → Bool
  | .eq, .Eq | .ne, .NotEq | .lt, .Lt | .le, .LtE | .gt, .Gt | .ge, .GtE | .in_, .In | .notin, .NotIn | .is_, .Is | .isnot, .IsNot => true
  | _, _ => false
theorem opC_ok {o : CO} {p : CmpOp} (h : opC o p = true) : p = o.op := by
  cases o <;> cases p <;> first | rfl | cases h
def cstB (T : Tb) (sc : Scope) : D → Expr → Bool
  | .int i, .Constant (.int j) _ _ => i == j
  | .bl i, .Constant (.bool j) _ _ => i == j
  | .non, .Constant .none _ _ => true
  | .str x, .Constant (.str y) _ _ => (x == y) && (PySem.PyData.strOk x && decide (x.length ≤ 1000000))
  | .fn f, .Name x _ => isGl sc x && (plainNm x && decide (T.fx.lookup x = some f))
  | d, .Name x _ => isGl sc x && (plainNm x && match T.cx.lookup x with
    | some d' => dEqB d d'
    | _ => false)
  | _, _ => false
/-- x and y and .. -/
def andB (f : Expr → Ex → Bool) : List Expr → Ex → Bool
  | [e], x => f e x
  | e :: es, .and a b => f e a && andB f es b
  | _, _ => false
def orB (f : Expr → Ex → Bool) : List Expr → Ex → Bool
  | [e], x => f e x
  | e :: es, .or a b => f e a && orB f es b
  | _, _ => false
def tysB (T : Tb) (sc : Scope) (es : List Expr) (ts : List Ty) : Bool := decide (tysOf es = some ts) && (es.all fun e => match e with
  | .Name x _ => isGl sc x && T.bn.contains x
  | _ => true) && !ts.isEmpty && decide (ts.length ≤ 100)
/-- the built-in functions by name -/
def biNm : Bi → Option (Str × Bool)
  | .len => some ("len", false) | .all => some ("all", false) | .any => some ("any", false) | .sum => some ("sum", false) | .min2 => some ("min", false) | .max2 => some ("max", false)
  | .tuple => some ("tuple", true) | .list => some ("list", true) | .int => some ("int", true) | .str => some ("str", true) | .sorted => some ("sorted", false)
  | _ => none
def setB (T : Tb) (c : Ck) (sc : Scope) (fnn : Str → Bool) (outer : Str) (x : Str) (es : List Expr) (xs : List Ex) : Bool :=
  match es, xs with
  | [.Call (.Name y _) [a] [] _], [ea] => bnIs T sc x outer && (bnIs T sc y "set" && (noStar a && c.E sc fnn a ea))
  | _, _ => false
def biB (T : Tb) (c : Ck) (sc : Scope) (fnn : Str → Bool) (f : Bi) (x : Str) (es : List Expr) (xs : List Ex) : Bool :=
  match f with
  | .sortset => setB T c sc fnn "sorted" x es xs
  | .lenset => setB T c sc fnn "len" x es xs
  | .bool => false
  | .dict => match es, xs with
    | [a], [ea] => bnIs T sc x "dict" && (noStar a && c.E sc fnn a ea)
    | _, _ => false
  | f => (match biNm f with
    | some (y, _) => bnIs T sc x y
    | none => false) && (!es.isEmpty && ckL c sc fnn es xs)
def mtNm : Mt → Option Str
  | .append => some "append" | .extend => some "extend" | .insert => some "insert" | .pop1 => some "pop"
  | _ => none
def mtB (c : Ck) (sc : Scope) (fnn : Str → Bool) (f : Mt) (o : Expr) (m : Str) (apos cpos : Pos) (es : List Expr) (eo : Ex) (xs : List Ex) : Bool :=
  (apos.endLine == cpos.endLine || true) && (apos.endLine == cpos.line) && (noCall0 o && (c.E sc fnn o eo && (ckL c sc fnn es xs && match f with
    | .join => (m == ("join" : Str)) && decide (es.length = 1)
    | .upper => (m == ("upper" : Str)) && (es.isEmpty && xs.isEmpty)
    | f => (match mtNm f with
      | some y => m == y
      | none => false) && (!es.isEmpty && decide (es.length < 30)))))
def ckE (T : Tb) (c : Ck) (sc : Scope) (fnn : Str → Bool) (e : Expr) (ex : Ex) : Bool :=
  match ex with
  | .var i => match e with
    | .Name x _ => decide (T.N[i]? = some x) && (isVis sc x && plainNm x)
    | _ => false
  | .cst d => cstB T sc d e
  | .neg a => match e with
    | .UnaryOp .USub b _ => c.E sc fnn b a
    | _ => false
  | .not a => match e with
    | .UnaryOp .Not b _ => c.E sc fnn b a
    | _ => false
  | .bin o a b => match e with
    | .BinOp a' p b' _ => opB o p && (c.E sc fnn a' a && c.E sc fnn b' b)
    | _ => false
  | .cmp o a b => match e with
    | .Compare a' [p] [b'] _ => opC o p && (noSet b' && (c.E sc fnn a' a && c.E sc fnn b' b))
    | _ => false
  | .eqo _ neg t a b => match e with
    | .Compare a' [p] [b'] _ => eqoB T neg t p && (noSet b' && (c.E sc fnn a' a && c.E sc fnn b' b))
    | _ => false
  | .chain o p a b d => match e with
    | .Compare a' [o', p'] [b', d'] _ => opC o o' && (opC p p' && (noSet b' && (noSet d' && (c.E sc fnn a' a && (c.E sc fnn b' b && c.E sc fnn d' d)))))
    | _ => false
  | .and a b => match e with
    | .BoolOp .And es _ => andB (c.E sc fnn) es (.and a b)
    | _ => false
  | .or a b => match e with
    | .BoolOp .Or es _ => orB (c.E sc fnn) es (.or a b)
    | _ => false
  | .ite k a b => match e with
    | .IfExp k' a' b' _ => c.B sc fnn k' k && (c.E sc fnn a' a && c.E sc fnn b' b)
    | _ => false
  | .tup xs => match e with
    | .Tuple es _ _ => ckL c sc fnn es xs
    | _ => false
  | .lst _ xs => match e with
    | .List es _ => ckL c sc fnn es xs
    | _ => false
  | .idx a b => match e with
    | .Subscript a' b' _ => noSlice b' && (c.E sc fnn a' a && c.E sc fnn b' b)
    | _ => false
  | .slc _ a lo hi => match e with
    | .Subscript a' (.Slice lo' hi' none _) _ => c.E sc fnn a' a && (ckO c sc fnn lo' lo && ckO c sc fnn hi' hi)
    | _ => false
  | .isi a ts => match e with
    | .Call (.Name x _) [a', b'] [] _ => bnIs T sc x "isinstance" && (noStar a' && (c.E sc fnn a' a && match b' with
      | .Name y _ => tysB T sc [.Name y ⟨0, 0, 0, 0⟩] ts
      | .Tuple es _ _ => tysB T sc es ts
      | _ => false))
    | _ => false
  | .iso cn a => match e with
    | .Call (.Name x _) [a', .Name y _] [] _ => bnIs T sc x "isinstance" && (noStar a' && (c.E sc fnn a' a && ((y == cn) && (isGl sc y && (plainNm y && (T.cl.contains y && (T.mt.lookup (y, ("__eq__" : Str))).isSome))))))
    | _ => false
  | .bi _ f xs => match e with
    | .Call (.Name x _) es [] _ => biB T c sc fnn f x es xs
    | _ => false
  | .mt f o xs => match e with
    | .Call (.Attribute o' m apos) es [] cpos => mtB c sc fnn f o' m apos cpos es o xs
    | _ => false
  | .call f xs => match e with
    | .Call (.Name x _) es kws _ => isGl sc x && (plainNm x && (decide (T.fx.lookup x = some f) && shB c sc fnn (T.s f) es kws xs))
    | _ => false
  | .pcall f xs => match e with
    | .Call (.Name x _) es kws _ => isGl sc x && (plainNm x && (decide (T.fx.lookup x = some f) && shB c sc fnn (T.s f) es kws xs))
    | _ => false
  | .meth _ m t o xs => match e with
    | .Call (.Attribute o' m' apos) es kws pos => (m == m') && meB T c sc fnn m t o' apos pos es kws o xs
    | _ => false
  | .fld cs o f => match e with
    | .Attribute o' f' _ => (f == f') && (noCall0 o' && (c.E sc fnn o' o && cs.all fun cn => T.cl.contains cn && T.na.contains (cn, f)))
    | _ => false
  | .make _ cn f xs => match e with
    | .Call (.Name x _) es kws _ => (x == cn) && (isGl sc x && (plainNm x && (T.cl.contains cn && (decide (T.mkr.lookup cn = some f) && (decide ((T.s f).kw = none) && shB c sc fnn (T.s f) es kws xs)))))
    | _ => false
  | .dnew => match e with
    | .Dict [] [] _ => true
    | _ => false
  | .dcomp t i k kx vx => match e with
    | .DictComp kx' vx' gs scope _ => ckDC T c sc fnn kx' vx' gs scope t i k kx vx
    | _ => false
  | .isnone neg a => match e with
    | .Compare a' [op] [.Constant .none _ _] _ => (match op, neg with
      | .Is, false => true
      | .IsNot, true => true
      | _, _ => false) && c.E sc fnn a' a
    | _ => false
  | .rev _ a => match e with
    | .Subscript a' (.Slice none none (some (.UnaryOp .USub (.Constant (.int 1) _ _) _)) _) _ => c.E sc fnn a' a
    | _ => false
  | .litems _ a => match e with
    | .Call (.Name x _) [.Call (.Attribute o m apos) [] [] cpos] [] _ => bnIs T sc x "list" && ((m == ("items" : Str)) && (noCall0 o && ((apos.endLine == cpos.line) && c.E sc fnn o a)))
    | _ => false
  | .sortsz _ a => match e with
    | .Call (.Name x _) [b] [⟨some k, .Lambda params body scope _, _⟩] _ => T.lam && (bnIs T sc x "sorted" && ((k == ("key" : Str)) && (noStar b && (T.bn.contains ("len" : Str) && ((lamKeyB params body scope sizeKey).isSome && c.E sc fnn b a)))))
    | _ => false
  | .zip _ _ => false
  | .items _ => false
  | .values _ => false
  | .enum _ => false
  | .back _ => false
  | .callv nf i xs => match e with
    | .Call (.Name x _) es [] _ => decide (nf ≤ T.nf) && (((List.range nf).all fun f => (T.s f).full) && (decide (T.N[i]? = some x) && (isVis sc x && (plainNm x && ckL c sc fnn es xs))))
    | _ => false
  | .comp m t i k y => match e with
    | .ListComp elt gs scope _ => ckC T c sc fnn elt gs scope t i k y
    | _ => false
  | .range _ _ => false
  | .frz a => c.E sc fnn e a
  | .catm a b => match e with
    | .BinOp a' .Add b' _ => c.E sc fnn a' a && c.E sc fnn b' b
    | _ => false
  | .repm a b => match e with
    | .BinOp a' .Mult b' _ => c.E sc fnn a' a && c.E sc fnn b' b
    | _ => false
/-- as a test -/
def ckB (T : Tb) (c : Ck) (sc : Scope) (fnn : Str → Bool) (e : Expr) (ex : Ex) : Bool :=
  match e with
  | .UnaryOp .Not b _ => match ex with
    | .not a => c.B sc fnn b a
    | _ => false
  | .BoolOp .And es _ => andB (c.B sc fnn) es ex
  | .BoolOp .Or es _ => orB (c.B sc fnn) es ex
  | .IfExp k' a' b' _ => match ex with
    | .ite k a b => c.B sc fnn k' k && (c.B sc fnn a' a && c.B sc fnn b' b)
    | _ => false
  | .Compare a' [p] [b'] _ => match ex with
    | .cmp o a b => opC o p && (noSet b' && (c.E sc fnn a' a && c.E sc fnn b' b))
    | .eqo _ neg t a b => eqoB T neg t p && (noSet b' && (c.E sc fnn a' a && c.E sc fnn b' b))
    | .isnone neg a => (match p, neg with
      | .Is, false => true
      | .IsNot, true => true
      | _, _ => false) && ((match b' with
      | .Constant .none _ _ => true
      | _ => false) && c.E sc fnn a' a)
    | _ => false
  | .Compare a' [o', p'] [b', d'] _ => match ex with
    | .chain o p a b d => opC o o' && (opC p p' && (noSet b' && (noSet d' && (c.E sc fnn a' a && (c.E sc fnn b' b && c.E sc fnn d' d)))))
    | _ => false
  | e => plainT e && c.E sc fnn e ex
/-- as what is walked -/
def isTupE : Expr → Bool
  | .Tuple .. => true
  | _ => false
def ckI (T : Tb) (c : Ck) (sc : Scope) (fnn : Str → Bool) (tg e : Expr) (ex : Ex) : Bool :=
  match ex with
  | .range lo hi => match e with
    | .Call (.Name x _) [b] [] _ => bnIs T sc x "range" && (noStar b && (c.E sc fnn b hi && match lo with
      | .cst (.int i) => i == 0
      | _ => false))
    | .Call (.Name x _) [a, b] [] _ => bnIs T sc x "range" && (noStar a && (noStar b && (c.E sc fnn a lo && c.E sc fnn b hi)))
    | _ => false
  | .zip x y => match e with
    | .Call (.Name n _) [a, b] [] _ => bnIs T sc n "zip" && (isTupE tg && (noStar a && (noStar b && (c.E sc fnn a x && c.E sc fnn b y))))
    | _ => false
  | .enum x => match e with
    | .Call (.Name n _) [a] [] _ => bnIs T sc n "enumerate" && (isTupE tg && (noStar a && c.E sc fnn a x))
    | _ => false
  | .items x => match e with
    | .Call (.Attribute o m apos) [] [] cpos => (m == ("items" : Str)) && (isTupE tg && (noCall0 o && ((apos.endLine == cpos.line) && c.E sc fnn o x)))
    | _ => false
  | .values x => match e with
    | .Call (.Attribute o m apos) [] [] cpos => (m == ("values" : Str)) && (noCall0 o && ((apos.endLine == cpos.line) && c.E sc fnn o x))
    | _ => false
  | ex => c.E sc fnn e ex
theorem bnIs_ok {T : Tb} {sc : Scope} {x y : Str} (h : bnIs T sc x y = true) : x = y ∧ isGl sc x = true ∧ x ∈ T.bn ∧ plainNm x = true := by
  unfold bnIs at h
  simp only [Bool.and_eq_true, beq_iff_eq] at h
  exact ⟨h.1.1.1, h.1.1.2, List.contains_iff_mem.mp h.1.2, h.2⟩
section
variable {G : GX} {C : Calls} {T : Tb} {c : Ck} {sc : Scope} {fnn : Str → Bool} {X : Cx} {Ww : WX}
theorem cst_ok (g : Gd G C T sc fnn X Ww) {d : D} {e : Expr} (h : cstB T sc d e = true) : PE X e (RE G Ww C (.cst d)) := by
  unfold cstB at h
  split at h
  · rw [beq_iff_eq] at h; subst h; exact se_const pe_int fun _ => .int _
  · rw [beq_iff_eq] at h; subst h; exact se_const pe_bl fun _ => .bl _
  · exact se_const pe_non fun _ => .non
  · simp only [Bool.and_eq_true, beq_iff_eq, decide_eq_true_eq] at h
    obtain ⟨rfl, h1, h2⟩ := h
    exact se_const pe_str fun _ => .str _ ⟨h1, Nat.le_trans h2 (by decide)⟩
  · simp only [Bool.and_eq_true, decide_eq_true_eq] at h
    obtain ⟨h1, h2, h3⟩ := h
    exact se_fn (g.glb h1) (by rw [g.mg]; exact (g.gl.fx _ _ h3).2) (plainNm_ok h2).1
  · simp only [Bool.and_eq_true] at h
    obtain ⟨h1, h2, h3⟩ := h
    split at h3
    · rename_i j e
      have h3 := dEqB_ok h3
      subst h3
      obtain ⟨u, v, q1, q2, q3⟩ := g.gl.cx _ _ e
      exact se_const (pe_glob (g.glb h1) (by rw [g.mg]; exact q1) q2 (plainNm_ok h2).1) q3
    · cases h3
  · cases h
theorem and_okE (g : Gd G C T sc fnn X Ww) (ok : CkOk T c) {pos : Pos} : ∀ {es : List Expr} {x : Ex}, andB (c.E sc fnn) es x = true → PE X (.BoolOp .And es pos) (RE G Ww C x)
  | [], x, h => by cases x <;> cases h
  | [e], x, h => by
    have h' : c.E sc fnn e x = true := by
      cases x <;> first | exact h | (unfold andB at h; exact h)
    exact pe_one (ok.E h' g)
  | e :: f :: es, x, h => by
    cases x with
    | and a b =>
      unfold andB at h
      rw [Bool.and_eq_true] at h
      exact se_and g.K (ok.E h.1 g) (and_okE g ok h.2)
    | _ => cases h
theorem or_okE (g : Gd G C T sc fnn X Ww) (ok : CkOk T c) {pos : Pos} : ∀ {es : List Expr} {x : Ex}, orB (c.E sc fnn) es x = true → PE X (.BoolOp .Or es pos) (RE G Ww C x)
  | [], x, h => by cases x <;> cases h
  | [e], x, h => by
    have h' : c.E sc fnn e x = true := by
      cases x <;> first | exact h | (unfold orB at h; exact h)
    exact pe_one (ok.E h' g)
  | e :: f :: es, x, h => by
    cases x with
    | or a b =>
      unfold orB at h
      rw [Bool.and_eq_true] at h
      exact se_or g.K (ok.E h.1 g) (or_okE g ok h.2)
    | _ => cases h
theorem and_okB (g : Gd G C T sc fnn X Ww) (ok : CkOk T c) {pos : Pos} : ∀ {es : List Expr} {x : Ex}, andB (c.B sc fnn) es x = true → PW X (.BoolOp .And es pos) (RT G Ww C x)
  | [], x, h => by cases x <;> cases h
  | [e], x, h => by
    have h' : c.B sc fnn e x = true := by
      cases x <;> first | exact h | (unfold andB at h; exact h)
    exact sw_one_and (ok.B h' g)
  | e :: f :: es, x, h => by
    cases x with
    | and a b =>
      unfold andB at h
      rw [Bool.and_eq_true] at h
      exact sw_and (ok.B h.1 g) (and_okB g ok h.2)
    | _ => cases h
theorem or_okB (g : Gd G C T sc fnn X Ww) (ok : CkOk T c) {pos : Pos} : ∀ {es : List Expr} {x : Ex}, orB (c.B sc fnn) es x = true → PW X (.BoolOp .Or es pos) (RT G Ww C x)
  | [], x, h => by cases x <;> cases h
  | [e], x, h => by
    have h' : c.B sc fnn e x = true := by
      cases x <;> first | exact h | (unfold orB at h; exact h)
    exact sw_one_or (ok.B h' g)
  | e :: f :: es, x, h => by
    cases x with
    | or a b =>
      unfold orB at h
      rw [Bool.and_eq_true] at h
      exact sw_or (ok.B h.1 g) (or_okB g ok h.2)
    | _ => cases h
theorem tys_ok (g : Gd G C T sc fnn X Ww) {es : List Expr} {ts : List Ty} (h : tysB T sc es ts = true) : tysOf es = some ts ∧ (∀ x p, Expr.Name x p ∈ es → Gl X x ∧ X.mg x = none) ∧ ts ≠ [] ∧ ts.length ≤ 100 := by
  unfold tysB at h
  simp only [Bool.and_eq_true, decide_eq_true_eq, List.all_eq_true, Bool.not_eq_true'] at h
  obtain ⟨⟨⟨h1, h2⟩, h3⟩, h4⟩ := h
  refine ⟨h1, fun x p hx => ?_, fun z => (by rw [z] at h3; cases h3), h4⟩
  have q := h2 _ hx
  simp only [Bool.and_eq_true] at q
  exact ⟨g.glb q.1, g.noglb (List.contains_iff_mem.mp q.2)⟩
theorem isi_ok (g : Gd G C T sc fnn X Ww) (ok : CkOk T c) {x : Str} {a b : Expr} {ea : Ex} {ts : List Ty} {p pos : Pos} (h : (bnIs T sc x "isinstance" && (noStar a && (c.E sc fnn a ea && match b with
      | .Name y _ => tysB T sc [.Name y ⟨0, 0, 0, 0⟩] ts
      | .Tuple es _ _ => tysB T sc es ts
      | _ => false))) = true) : PE X (.Call (.Name x p) [a, b] [] pos) (RE G Ww C (.isi ea ts)) := by
  simp only [Bool.and_eq_true] at h
  obtain ⟨h1, h2, h3, h4⟩ := h
  obtain ⟨rfl, hg, hb, hn⟩ := bnIs_ok h1
  split at h4
  · rename_i y p2
    obtain ⟨t1, t2, t3, t4⟩ := tys_ok g h4
    obtain ⟨q1, q2⟩ := t2 y ⟨0, 0, 0, 0⟩ (List.mem_cons_self ..)
    have t1' : (match tyOf y, (some [] : Option (List Ty)) with
      | some t, some ts => some (t :: ts)
      | _, _ => none) = some ts := t1
    cases ht : tyOf y with
    | none => rw [ht] at t1'; cases t1'
    | some t =>
      rw [ht] at t1'
      cases t1'
      exact se_isi g.K (g.glb hg) (g.noglb hb) ht q1 q2 (ok.E h3 g) (star_of h2)
  · obtain ⟨t1, t2, t3, t4⟩ := tys_ok g h4
    exact se_isiT g.K (g.glb hg) (g.noglb hb) t1 t2 t4 t3 (ok.E h3 g) (star_of h2)
  · cases h4
theorem set_ok (g : Gd G C T sc fnn X Ww) (ok : CkOk T c) {m : Bool} {x : Str} {es : List Expr} {xs : List Ex} {p pos : Pos} : (setB T c sc fnn "sorted" x es xs = true → PE X (.Call (.Name x p) es [] pos) (RE G Ww C (.bi m .sortset xs))) ∧ (setB T c sc fnn "len" x es xs = true → PE X (.Call (.Name x p) es [] pos) (RE G Ww C (.bi m .lenset xs))) := by
  constructor
  · intro h
    unfold setB at h
    split at h
    · simp only [Bool.and_eq_true] at h
      obtain ⟨h1, h2, h3, h4⟩ := h
      obtain ⟨rfl, a1, a2, _⟩ := bnIs_ok h1
      obtain ⟨rfl, b1, b2, _⟩ := bnIs_ok h2
      exact se_sortset g.K g.calm (by have := g.units; omega) (g.glb a1) (g.noglb a2) (g.glb b1) (g.noglb b2) (ok.E h4 g) (star_of h3)
    · cases h
  · intro h
    unfold setB at h
    split at h
    · simp only [Bool.and_eq_true] at h
      obtain ⟨h1, h2, h3, h4⟩ := h
      obtain ⟨rfl, a1, a2, _⟩ := bnIs_ok h1
      obtain ⟨rfl, b1, b2, _⟩ := bnIs_ok h2
      exact se_lenset g.K g.calm (g.glb a1) (g.noglb a2) (g.glb b1) (g.noglb b2) (ok.E h4 g) (star_of h3)
    · cases h
theorem bi_one (g : Gd G C T sc fnn X Ww) (ok : CkOk T c) {m : Bool} {f : Bi} {x : Str} {id : String} {es : List Expr} {xs : List Ex} {p pos : Pos} (hc : CallR X (.builtin id) (rBi G m f)) (hx : isGl sc x = true ∧ x ∈ T.bn ∧ plainNm x = true) (hv : bootBuiltins x = some (.builtin id)) (he : (!es.isEmpty) = true) (hl : ckL c sc fnn es xs = true) :
    PE X (.Call (.Name x p) es [] pos) (RE G Ww C (.bi m f xs)) := by
  cases es with
  | nil => cases he
  | cons e es =>
    have st := ckL_star hl
    have h2 : noStar e = true ∧ es.all noStar = true := by rw [List.all_cons, Bool.and_eq_true] at st; exact st
    exact se_bi hc (g.glb hx.1) (g.noglb hx.2.1) hv (ckL_ok ok g hl) (plainNm_ok hx.2.2).2.2 (plainNm_ok hx.2.2).1 (star_of h2.1) (back_any.trans (star_any (env := X.env) h2.2))
theorem bi_oneT (g : Gd G C T sc fnn X Ww) (ok : CkOk T c) {m : Bool} {f : Bi} {x : Str} {id : String} {es : List Expr} {xs : List Ex} {p pos : Pos} (hc : CallR X (.type id) (rBi G m f)) (hx : isGl sc x = true ∧ x ∈ T.bn ∧ plainNm x = true) (hv : bootBuiltins x = some (.type id)) (he : (!es.isEmpty) = true) (hl : ckL c sc fnn es xs = true) :
    PE X (.Call (.Name x p) es [] pos) (RE G Ww C (.bi m f xs)) := by
  cases es with
  | nil => cases he
  | cons e es =>
    have st := ckL_star hl
    have h2 : noStar e = true ∧ es.all noStar = true := by rw [List.all_cons, Bool.and_eq_true] at st; exact st
    exact se_biT hc (g.glb hx.1) (g.noglb hx.2.1) hv (ckL_ok ok g hl) (plainNm_ok hx.2.2).2.2 (plainNm_ok hx.2.2).1 (star_of h2.1) (back_any.trans (star_any (env := X.env) h2.2))
theorem bi_ok (g : Gd G C T sc fnn X Ww) (ok : CkOk T c) {m : Bool} {f : Bi} {x : Str} {es : List Expr} {xs : List Ex} {p pos : Pos} (h : biB T c sc fnn f x es xs = true) : PE X (.Call (.Name x p) es [] pos) (RE G Ww C (.bi m f xs)) := by
  have go : ∀ {y : Str}, (bnIs T sc x y && (!es.isEmpty && ckL c sc fnn es xs)) = true → x = y ∧ (isGl sc x = true ∧ x ∈ T.bn ∧ plainNm x = true) ∧ (!es.isEmpty) = true ∧ ckL c sc fnn es xs = true := fun {y} h => by
    rw [Bool.and_eq_true, Bool.and_eq_true] at h
    obtain ⟨a, b, c', d⟩ := bnIs_ok h.1
    exact ⟨a, ⟨b, c', d⟩, h.2.1, h.2.2⟩
  cases f with
  | sortset => exact (set_ok g ok).1 h
  | lenset => exact (set_ok g ok).2 h
  | bool => cases h
  | dict =>
    have h' : (match (generalizing := false) es, xs with
      | [a], [ea] => bnIs T sc x "dict" && (noStar a && c.E sc fnn a ea)
      | _, _ => false) = true := h
    split at h'
    · simp only [Bool.and_eq_true] at h'
      obtain ⟨rfl, a, b, d⟩ := bnIs_ok h'.1
      exact bi_dict g.K g.calm m (g.glb a) (g.noglb b) (ok.E h'.2.2 g) h'.2.1
    · cases h'
  | len => obtain ⟨rfl, a, b, d⟩ := go (y := "len") h; exact bi_one g ok (bi_len g.K m) a (by decide +kernel) b d
  | all => obtain ⟨rfl, a, b, d⟩ := go (y := "all") h; exact bi_one g ok (bi_all g.K g.calm m) a (by decide +kernel) b d
  | any => obtain ⟨rfl, a, b, d⟩ := go (y := "any") h; exact bi_one g ok (bi_any g.K g.calm m) a (by decide +kernel) b d
  | sum => obtain ⟨rfl, a, b, d⟩ := go (y := "sum") h; exact bi_one g ok (bi_sum g.K g.calm m) a (by decide +kernel) b d
  | sorted => obtain ⟨rfl, a, b, d⟩ := go (y := "sorted") h; exact bi_one g ok (bi_sorted g.K g.calm (by have := g.units; omega) m) a (by decide +kernel) b d
  | min2 => obtain ⟨rfl, a, b, d⟩ := go (y := "min") h; exact bi_one g ok (bi_min2 g.calm m) a (by decide +kernel) b d
  | max2 => obtain ⟨rfl, a, b, d⟩ := go (y := "max") h; exact bi_one g ok (bi_max2 g.calm m) a (by decide +kernel) b d
  | tuple => obtain ⟨rfl, a, b, d⟩ := go (y := "tuple") h; exact bi_oneT g ok (bi_tuple g.K g.calm m) a (by decide +kernel) b d
  | list => obtain ⟨rfl, a, b, d⟩ := go (y := "list") h; exact bi_oneT g ok (bi_list g.K g.calm m) a (by decide +kernel) b d
  | int => obtain ⟨rfl, a, b, d⟩ := go (y := "int") h; exact bi_oneT g ok (bi_int m) a (by decide +kernel) b d
  | str => obtain ⟨rfl, a, b, d⟩ := go (y := "str") h; exact bi_oneT g ok (bi_str m) a (by decide +kernel) b d
theorem mt_one (g : Gd G C T sc fnn X Ww) (ok : CkOk T c) {f : Mt} {id : String} {m : Str} {o : Expr} {es : List Expr} {eo : Ex} {xs : List Ex} {apos cpos : Pos} (hf : f.ofList = true) (slot : Slot "list" m id) (hty : typeOf (.builtin id) = pure (.type "method_descriptor")) (hm : MtR X id (rMt G f))
    (hline : (apos.endLine == cpos.line) = true) (h0 : noCall0 o = true) (ho : c.E sc fnn o eo = true) (hl : ckL c sc fnn es xs = true) (he : (!es.isEmpty) = true) (hz : es.length < 30) : PE X (.Call (.Attribute o m apos) es [] cpos) (RE G Ww C (.mt f eo xs)) := by
  cases es with
  | nil => cases he
  | cons e es =>
    have st := ckL_star hl
    have h2 : noStar e = true ∧ es.all noStar = true := by rw [List.all_cons, Bool.and_eq_true] at st; exact st
    exact se_mtL g.K hf slot hty hm (ok.E ho g) (ckL_ok ok g hl) (noCall0_base h0 _ _ _) (few_ok st hz) hline (star_of h2.1) (back_any.trans (star_any (env := X.env) h2.2))
theorem mt_ok (g : Gd G C T sc fnn X Ww) (ok : CkOk T c) {f : Mt} {m : Str} {o : Expr} {es : List Expr} {eo : Ex} {xs : List Ex} {apos cpos : Pos} (h : mtB c sc fnn f o m apos cpos es eo xs = true) : PE X (.Call (.Attribute o m apos) es [] cpos) (RE G Ww C (.mt f eo xs)) := by
  unfold mtB at h
  rw [Bool.and_eq_true, Bool.and_eq_true, Bool.and_eq_true, Bool.and_eq_true, Bool.and_eq_true] at h
  obtain ⟨⟨_, h1⟩, h2, h3, h4, h5⟩ := h
  have go : ∀ {y : Str}, (m == y && (!es.isEmpty && decide (es.length < 30))) = true → m = y ∧ (!es.isEmpty) = true ∧ es.length < 30 := fun {y} h => by
    simp only [Bool.and_eq_true, beq_iff_eq, decide_eq_true_eq] at h
    exact h
  cases f with
  | append => obtain ⟨rfl, a, b⟩ := go (y := "append") h5; exact mt_one g ok rfl PySem.F.slot_list_append PySem.F.type_list_append (mr_append g.K) h1 h2 h3 h4 a b
  | extend => obtain ⟨rfl, a, b⟩ := go (y := "extend") h5; exact mt_one g ok rfl PySem.F.slot_list_extend PySem.F.type_list_extend (mr_extend g.K) h1 h2 h3 h4 a b
  | insert => obtain ⟨rfl, a, b⟩ := go (y := "insert") h5; exact mt_one g ok rfl PySem.F.slot_list_insert PySem.F.type_list_insert (mr_insert g.K) h1 h2 h3 h4 a b
  | pop1 => obtain ⟨rfl, a, b⟩ := go (y := "pop") h5; exact mt_one g ok rfl PySem.F.slot_list_pop PySem.F.type_list_pop (mr_pop1 g.K) h1 h2 h3 h4 a b
  | pop0 => cases h5
  | upper =>
    have h6 : (m == ("upper" : Str) && (es.isEmpty && xs.isEmpty)) = true := h5
    simp only [Bool.and_eq_true, beq_iff_eq, List.isEmpty_iff] at h6
    obtain ⟨rfl, rfl, rfl⟩ := h6
    exact se_upper (ok.E h3 g) (noCall0_base h2 _ _ _) h1
  | join =>
    have h6 : (m == ("join" : Str) && decide (es.length = 1)) = true := h5
    rw [Bool.and_eq_true, beq_iff_eq, decide_eq_true_eq] at h6
    obtain ⟨rfl, hl⟩ := h6
    have st := ckL_star h4
    cases es with
    | nil => cases hl
    | cons e es =>
      cases es with
      | cons _ _ => cases hl
      | nil =>
        cases xs with
        | nil =>
          unfold ckL at h4
          rw [Bool.and_eq_true] at h4
          cases h4.2
        | cons x xs =>
          unfold ckL at h4
          rw [Bool.and_eq_true] at h4
          have h7 : (c.E sc fnn e x && all2 (c.E sc fnn) [] xs) = true := h4.2
          rw [Bool.and_eq_true] at h7
          cases xs with
          | cons _ _ => cases h7.2
          | nil =>
            rw [List.all_cons, Bool.and_eq_true] at st
            exact se_join g.K (ok.E h3 g) (ok.E h7.1 g) (star_of st.1) (noCall0_base h2 _ _ _) h1
end
def ck (T : Tb) : Nat → Ck
  | 0 => ⟨fun _ _ _ _ => false, fun _ _ _ _ => false, fun _ _ _ _ _ => false⟩
  | n + 1 => ⟨ckE T (ck T n), ckB T (ck T n), ckI T (ck T n)⟩
end OM
namespace OM
open PySem PySem.Spec L2
section
variable {G : GX} {C : Calls} {T : Tb} {c : Ck} {sc : Scope} {fnn : Str → Bool} {X : Cx} {Ww : WX}
theorem cmp_ok (g : Gd G C T sc fnn X Ww) (ok : CkOk T c) {o : CO} {p : CmpOp} {a b : Expr} {ea eb : Ex} {pos : Pos} (h : (opC o p && (noSet b && (c.E sc fnn a ea && c.E sc fnn b eb))) = true) : PE X (.Compare a [p] [b] pos) (RE G Ww C (.cmp o ea eb)) ∧ PT X (.Compare a [p] [b] pos) (RT G Ww C (.cmp o ea eb)) := by
  simp only [Bool.and_eq_true] at h
  obtain ⟨h1, h2, h3, h4⟩ := h
  rw [opC_ok h1]
  exact ⟨se_cmp g.K g.units (noSet_marks h2 _) (ok.E h3 g) (ok.E h4 g), st_cmp g.K g.units (noSet_marks h2 _) (ok.E h3 g) (ok.E h4 g)⟩
theorem eqo_ok (g : Gd G C T sc fnn X Ww) (ok : CkOk T c) {pu neg : Bool} {t : List (Str × Nat)} {p : CmpOp} {a b : Expr} {ea eb : Ex} {pos : Pos} (h : (eqoB T neg t p && (noSet b && (c.E sc fnn a ea && c.E sc fnn b eb))) = true) : PE X (.Compare a [p] [b] pos) (RE G Ww C (.eqo pu neg t ea eb)) ∧ PT X (.Compare a [p] [b] pos) (RT G Ww C (.eqo pu neg t ea eb)) := by
  simp only [Bool.and_eq_true] at h
  obtain ⟨h1, h2, h3, h4⟩ := h
  obtain ⟨rfl, M⟩ := eqoB_ok g h1
  exact ⟨se_eqo g.K g.units M (noSet_marks h2 _) (ok.E h3 g) (ok.E h4 g), st_eqo g.K g.units M (noSet_marks h2 _) (ok.E h3 g) (ok.E h4 g)⟩
theorem chain_ok (g : Gd G C T sc fnn X Ww) (ok : CkOk T c) {o o2 : CO} {p p2 : CmpOp} {a b d : Expr} {ea eb ed : Ex} {pos : Pos} (h : (opC o p && (opC o2 p2 && (noSet b && (noSet d && (c.E sc fnn a ea && (c.E sc fnn b eb && c.E sc fnn d ed)))))) = true) :
    PE X (.Compare a [p, p2] [b, d] pos) (RE G Ww C (.chain o o2 ea eb ed)) ∧ PT X (.Compare a [p, p2] [b, d] pos) (RT G Ww C (.chain o o2 ea eb ed)) := by
  simp only [Bool.and_eq_true] at h
  obtain ⟨h1, h2, h3, h4, h5, h6, h7⟩ := h
  rw [opC_ok h1, opC_ok h2]
  exact ⟨se_chain g.K g.units (noSet_marks h3 _) (noSet_marks h4 _) (ok.E h5 g) (ok.E h6 g) (ok.E h7 g), st_chain g.K g.units (noSet_marks h3 _) (noSet_marks h4 _) (ok.E h5 g) (ok.E h6 g) (ok.E h7 g)⟩
theorem ckE_ok (g : Gd G C T sc fnn X Ww) (ok : CkOk T c) {e : Expr} {ex : Ex} (h : ckE T c sc fnn e ex = true) : PE X e (RE G Ww C ex) := by
  cases ex with
  | var i =>
    unfold ckE at h
    dsimp only at h
    split at h
    · simp only [Bool.and_eq_true, decide_eq_true_eq] at h
      obtain ⟨h1, h2, h3⟩ := h
      exact se_var (by rw [g.N]; exact h1) (g.vis h2) (plainNm_ok h3).1 (plainNm_ok h3).2.1
    · cases h
  | cst d => exact cst_ok g h
  | neg a =>
    unfold ckE at h
    dsimp only at h
    split at h
    · exact se_neg (ok.E h g)
    · cases h
  | not a =>
    unfold ckE at h
    dsimp only at h
    split at h
    · exact se_not g.K (ok.E h g)
    · cases h
  | bin o a b =>
    unfold ckE at h
    dsimp only at h
    split at h
    · simp only [Bool.and_eq_true] at h
      rw [opB_ok h.1]
      exact se_bin g.K (ok.E h.2.1 g) (ok.E h.2.2 g)
    · cases h
  | cmp o a b =>
    unfold ckE at h
    dsimp only at h
    split at h
    · exact (cmp_ok g ok h).1
    · cases h
  | eqo p neg t a b =>
    unfold ckE at h
    dsimp only at h
    split at h
    · exact (eqo_ok g ok h).1
    · cases h
  | chain o p a b d =>
    unfold ckE at h
    dsimp only at h
    split at h
    · exact (chain_ok g ok h).1
    · cases h
  | and a b =>
    unfold ckE at h
    dsimp only at h
    split at h
    · exact and_okE g ok h
    · cases h
  | or a b =>
    unfold ckE at h
    dsimp only at h
    split at h
    · exact or_okE g ok h
    · cases h
  | ite k a b =>
    unfold ckE at h
    dsimp only at h
    split at h
    · simp only [Bool.and_eq_true] at h
      exact st_ite (ok.B h.1 g) (ok.E h.2.1 g) (ok.E h.2.2 g)
    · cases h
  | tup xs =>
    unfold ckE at h
    dsimp only at h
    split at h
    · exact se_tup (ckL_ok ok g h)
    · cases h
  | lst m xs =>
    unfold ckE at h
    dsimp only at h
    split at h
    · exact se_lst (ckL_ok ok g h)
    · cases h
  | idx a b =>
    unfold ckE at h
    dsimp only at h
    split at h
    · simp only [Bool.and_eq_true] at h
      exact se_idx g.K g.units (noSlice_ix h.1) (ok.E h.2.1 g) (ok.E h.2.2 g)
    · cases h
  | slc m a lo hi =>
    unfold ckE at h
    dsimp only at h
    split at h
    · simp only [Bool.and_eq_true] at h
      exact se_slc g.K (ok.E h.1 g) (ckO_ok ok g h.2.1) (ckO_ok ok g h.2.2)
    · cases h
  | isi a ts =>
    unfold ckE at h
    dsimp only at h
    split at h
    · exact isi_ok g ok h
    · cases h
  | iso cn a =>
    unfold ckE at h
    dsimp only at h
    split at h
    · simp only [Bool.and_eq_true, beq_iff_eq] at h
      obtain ⟨h1, h2, h3, rfl, h5, h6, h7, h8⟩ := h
      obtain ⟨rfl, hg, hb, hn⟩ := bnIs_ok h1
      obtain ⟨f, hf⟩ := Option.isSome_iff_exists.mp h8
      have q := g.gl.cl _ (List.contains_iff_mem.mp h7)
      exact se_iso g.K (g.glb hg) (g.noglb hb) (g.glb h5) (by rw [g.mg]; exact q.2) (plainNm_ok h6).1 (by rw [g.K]; exact q.1) (by rw [g.K]; exact (g.gl.ne _ f hf).2) (ok.E h3 g) (star_of h2)
    · cases h
  | bi m f xs =>
    unfold ckE at h
    dsimp only at h
    split at h
    · exact bi_ok g ok h
    · cases h
  | mt f o xs =>
    unfold ckE at h
    dsimp only at h
    split at h
    · exact mt_ok g ok h
    · cases h
  | call f xs =>
    unfold ckE at h
    dsimp only at h
    split at h
    · simp only [Bool.and_eq_true, decide_eq_true_eq] at h
      obtain ⟨h1, h2, h3, h4⟩ := h
      obtain ⟨a, b⟩ := g.gl.fx _ _ h3
      exact callG_ok g ok (fun _ _ => rfl) (clb_fn g.K (g.fs f a) g.tk) h1 h2 b h4
    · cases h
  | pcall f xs =>
    unfold ckE at h
    dsimp only at h
    split at h
    · simp only [Bool.and_eq_true, decide_eq_true_eq] at h
      obtain ⟨h1, h2, h3, h4⟩ := h
      obtain ⟨a, b⟩ := g.gl.fx _ _ h3
      exact callG_ok (K := pureC (C f)) g ok (fun _ _ => rfl) (clb_callP (p := true) (clb_fn g.K (g.fs f a) g.tk)) h1 h2 b h4
    · cases h
  | make p cn f xs =>
    unfold ckE at h
    dsimp only at h
    split at h
    · simp only [Bool.and_eq_true, decide_eq_true_eq, beq_iff_eq] at h
      obtain ⟨rfl, h1, h2, h3, h4, h5, h6⟩ := h
      obtain ⟨a, b⟩ := g.gl.mkr _ _ h4
      obtain ⟨_, d⟩ := g.gl.cl _ (List.contains_iff_mem.mp h3)
      exact callG_ok (K := makeK p (C f) _) g ok (fun _ _ => rfl) (clb_makeK (clb_make g.K (by rw [g.K]; exact b) (g.fs f a) g.tk h5)) h1 h2 d h6
    · cases h
  | meth p m t o xs =>
    unfold ckE at h
    dsimp only at h
    split at h
    · rw [Bool.and_eq_true, beq_iff_eq] at h
      obtain ⟨rfl, h⟩ := h
      exact me_ok g ok h
    · cases h
  | fld cs o f =>
    unfold ckE at h
    dsimp only at h
    split at h
    · simp only [Bool.and_eq_true, beq_iff_eq] at h
      obtain ⟨rfl, h1, h2, h3⟩ := h
      refine se_fld g.K (ok.E h2 g) (fun cn hc => ?_) (noCall0_base h1 _ _ _)
      have q := List.all_eq_true.mp h3 cn hc
      rw [Bool.and_eq_true] at q
      rw [g.K]
      exact ⟨(g.gl.cl cn (List.contains_iff_mem.mp q.1)).1, g.gl.na cn _ (List.contains_iff_mem.mp q.2)⟩
    · cases h
  | dnew =>
    unfold ckE at h
    dsimp only at h
    split at h
    · exact se_dnew
    · cases h
  | dcomp t i k kx vx =>
    unfold ckE at h
    dsimp only at h
    split at h
    · exact ckDC_ok ok g h
    · cases h
  | isnone neg a =>
    unfold ckE at h
    dsimp only at h
    split at h
    · rw [Bool.and_eq_true] at h
      obtain ⟨h1, h2⟩ := h
      split at h1
      · exact (se_isnone (neg := false) (ok.E h2 g) pe_non rfl).1
      · exact (se_isnone (neg := true) (ok.E h2 g) pe_non rfl).1
      · cases h1
    · cases h
  | rev m a =>
    unfold ckE at h
    dsimp only at h
    split at h
    · exact se_rev g.K (ok.E h g)
    · cases h
  | litems m a =>
    unfold ckE at h
    dsimp only at h
    split at h
    · simp only [Bool.and_eq_true] at h
      obtain ⟨h1, h2, h3, h4, h5⟩ := h
      obtain ⟨rfl, a1, a2, _⟩ := bnIs_ok h1
      have h2' := eq_of_beq h2
      subst h2'
      exact se_litems g.calm (ok.E h5 g) (g.glb a1) (g.noglb a2) (noCall0_base h3 _ _ _) h4
    · cases h
  | sortsz m a =>
    unfold ckE at h
    dsimp only at h
    split at h
    · simp only [Bool.and_eq_true] at h
      obtain ⟨h1, h2, h3, h4, h5, h6, h7⟩ := h
      obtain ⟨rfl, a1, a2, _⟩ := bnIs_ok h2
      have h3' := eq_of_beq h3
      subst h3'
      obtain ⟨x, hx⟩ := Option.isSome_iff_exists.mp h6
      obtain ⟨b1, b2, b3, b4, b5, b6, b7, b8⟩ := lamKeyB_ok hx
      exact se_sortsz g.K g.units (g.lam h1) (g.glb a1) (g.noglb a2) (g.noglb (List.contains_iff_mem.mp h5)) (ok.E h7 g) (star_of h4) b1 b2 b3 b4 b5 b6 b7 b8
    · cases h
  | zip _ _ => unfold ckE at h; cases h
  | items _ => unfold ckE at h; cases h
  | values _ => unfold ckE at h; cases h
  | enum _ => unfold ckE at h; cases h
  | back _ => unfold ckE at h; cases h
  | callv nf i xs =>
    unfold ckE at h
    dsimp only at h
    split at h
    · simp only [Bool.and_eq_true, decide_eq_true_eq] at h
      obtain ⟨h0, ha, h1, h2, h3, h4⟩ := h
      exact se_callv (sgs := T.s) g.K (fun f hf => g.fs f (Nat.lt_of_lt_of_le hf h0)) g.tk (by rw [g.N]; exact h1) (g.vis h2) (ckL_ok ok g h4) (ckL_nil h4) (plainNm_ok h3).1 (plainNm_ok h3).2.1 (ckL_star h4) (fun f hf => List.all_eq_true.mp ha f (List.mem_range.mpr hf))
    · cases h
  | comp m t i k y =>
    unfold ckE at h
    dsimp only at h
    split at h
    · obtain ⟨tg, iter, ifs, rfl, q⟩ := ckC_ok ok g h
      exact se_lc g.K g.calm (by rw [g.N]; exact g.nd) q.hi q.blk q.own q.hg q.ht q.he q.hs
    · cases h
  | range lo hi => unfold ckE at h; cases h
  | frz a =>
    unfold ckE at h
    exact se_frz (ok.E h g)
  | catm a b =>
    unfold ckE at h
    dsimp only at h
    split at h
    · rw [Bool.and_eq_true] at h
      exact se_catm (ok.E h.1 g) (ok.E h.2 g)
    · cases h
  | repm a b =>
    unfold ckE at h
    dsimp only at h
    split at h
    · rw [Bool.and_eq_true] at h
      exact se_repm (ok.E h.1 g) (ok.E h.2 g)
    · cases h
theorem ckB_ok (g : Gd G C T sc fnn X Ww) (ok : CkOk T c) {e : Expr} {ex : Ex} (h : ckB T c sc fnn e ex = true) : PT X e (RT G Ww C ex) := by
  unfold ckB at h
  split at h
  · split at h
    · exact st_not (ok.B h g)
    · cases h
  · exact (and_okB g ok h).pt
  · exact (or_okB g ok h).pt
  · split at h
    · simp only [Bool.and_eq_true] at h
      exact st_iteT (ok.B h.1 g) (ok.B h.2.1 g) (ok.B h.2.2 g)
    · cases h
  · split at h
    · exact (cmp_ok g ok h).2
    · exact (eqo_ok g ok h).2
    · simp only [Bool.and_eq_true] at h
      obtain ⟨h1, h2, h3⟩ := h
      split at h2
      · split at h1
        · exact (se_isnone (neg := false) (ok.E h3 g) pe_non rfl).2
        · exact (se_isnone (neg := true) (ok.E h3 g) pe_non rfl).2
        · cases h1
      · cases h2
    · cases h
  · split at h
    · exact (chain_ok g ok h).2
    · cases h
  · rw [Bool.and_eq_true] at h
    exact st_val g.K (ok.E h.2 g) (plainT_ok h.1 _)
theorem ckI_ok (g : Gd G C T sc fnn X Ww) (ok : CkOk T c) {tg e : Expr} {ex : Ex} (h : ckI T c sc fnn tg e ex = true) : PI X tg e (RI G Ww C ex) := by
  have tup : ∀ {tg : Expr}, isTupE tg = true → ∃ es k p, tg = .Tuple es k p := fun {tg} h => by cases tg <;> first | exact ⟨_, _, _, rfl⟩ | cases h
  unfold ckI at h
  split at h
  · split at h
    · simp only [Bool.and_eq_true] at h
      obtain ⟨h1, h2, h3, h4⟩ := h
      obtain ⟨rfl, a1, a2, _⟩ := bnIs_ok h1
      split at h4
      · rw [beq_iff_eq] at h4
        subst h4
        exact se_range1 (g.glb a1) (g.noglb a2) (ok.E h3 g) h2
      · cases h4
    · simp only [Bool.and_eq_true] at h
      obtain ⟨h1, h2, h3, h4, h5⟩ := h
      obtain ⟨rfl, a1, a2, _⟩ := bnIs_ok h1
      exact se_range2 (g.glb a1) (g.noglb a2) (ok.E h4 g) (ok.E h5 g) h2 h3
    · cases h
  · split at h
    · simp only [Bool.and_eq_true] at h
      obtain ⟨h1, h2, h3, h4, h5, h6⟩ := h
      obtain ⟨rfl, a1, a2, _⟩ := bnIs_ok h1
      obtain ⟨es, k, p, rfl⟩ := tup h2
      exact se_zip g.K (g.glb a1) (g.noglb a2) (ok.E h5 g) (ok.E h6 g) h3 h4
    · cases h
  · split at h
    · simp only [Bool.and_eq_true] at h
      obtain ⟨h1, h2, h3, h4⟩ := h
      obtain ⟨rfl, a1, a2, _⟩ := bnIs_ok h1
      obtain ⟨es, k, p, rfl⟩ := tup h2
      exact se_enum g.K (g.glb a1) (g.noglb a2) (ok.E h4 g) h3
    · cases h
  · split at h
    · simp only [Bool.and_eq_true, beq_iff_eq] at h
      obtain ⟨rfl, h2, h3, h4, h5⟩ := h
      obtain ⟨es, k, p, rfl⟩ := tup h2
      exact se_items (ok.E h5 g) (noCall0_base h3 _ _ _) (by simpa using h4)
    · cases h
  · split at h
    · simp only [Bool.and_eq_true, beq_iff_eq] at h
      obtain ⟨rfl, h3, h4, h5⟩ := h
      exact se_values (ok.E h5 g) (noCall0_base h3 _ _ _) (by simpa using h4)
    · cases h
  · exact se_iter g.K (ok.E h g)
end
theorem ck_ok (T : Tb) : ∀ n, CkOk T (ck T n)
  | 0 => ⟨fun h => Bool.noConfusion h, fun h => Bool.noConfusion h, fun h => Bool.noConfusion h⟩
  | n + 1 => ⟨fun h g => ckE_ok g (ck_ok T n) h, fun h g => ckB_ok g (ck_ok T n) h, fun h g => ckI_ok g (ck_ok T n) h⟩
theorem attr_sw (e o : Expr) (f : Str) (p : Pos) (l : Nat) (env : Env) : swapsWith e (some (.Attribute o f p)) l env = pure false := by
  cases e <;> rfl
/-- a def's body's context -/
structure Gs (G : GX) (C : Calls) (T : Tb) (sc : Scope) (X : Cx) (Ww : WX) : Prop where
  g : Gd G C T sc (fun _ => true) X Ww
  kind : sc.kind = .function
  pas : PassesOwn (model X.prog X.w) X.A X.env X.xe
  st : X.stack = X.env :: X.outer
  fr : X.env.frame = some X.env.locals
/-- the context of a try's body -/
theorem Gs.tr {G : GX} {C : Calls} {T : Tb} {sc : Scope} {X : Cx} {Ww : WX} (g : Gs G C T sc X Ww) {W' : WX} {pn : List (Addr × Obj)} {xe : Value → Shared → Prop} (tk : Takes (X.tr pn xe) W') (p : PassesOwn (model X.prog X.w) X.A X.env xe) : Gs G C T sc (X.tr pn xe) W' :=
  ⟨⟨g.g.K, g.g.mg, g.g.N, g.g.nd, g.g.calm, g.g.units, g.g.sc, g.g.fn, tk, fun f h => ⟨(g.g.fs f h).ex⟩, g.g.gl, fun h => ⟨(g.g.lam h).ex, (g.g.lam h).room⟩, fun c fn h1 h2 => let q := g.g.xi c fn h1 h2; ⟨q.k, q.mg, q.nd, q.ini⟩⟩, g.kind, p, g.st, g.fr⟩
def fnT : Str → Bool := fun _ => true
/-- the blocks -/
def chkSs (f : Stmt → Sm → Bool) : List Stmt → List Sm → Bool
  | sts, .frz _ :: ss => chkSs f sts ss
  | sts, .wipe _ :: ss => chkSs f sts ss
  | [], [] => true
  | st :: sts, s :: ss => f st s && chkSs f sts ss
  | _, _ => false
def asgB (T : Tb) (c : Ck) (sc : Scope) (t : Tg) (ex : Ex) (tg : Expr) (e : Expr) (pos : Pos) : Bool :=
  match t with
  | .nm i => match tg with
    | .Name x p => decide (T.N[i]? = some x) && (isLoc sc fnT x && (if swB sc x p e then (match e, ex with
        | .ListComp elt gs scope _, .comp _ t i ec ee => ckC T c sc fnT elt gs scope t i ec ee
        | _, _ => false) else c.E sc fnT e ex))
    | _ => false
  | t => noStar tg && (chkG T sc fnT t tg && (noComp e && (noTup e && c.E sc fnT e ex)))
def parB (T : Tb) (c : Ck) (sc : Scope) (is : List Nat) (xs : List Ex) (tg e : Expr) : Bool :=
  match is, xs, tg, e with
  | [i, j], [_, _], .Tuple [.Name x px, .Name y py] _ _, .Tuple [a, b] _ _ => decide (T.N[i]? = some x) && (decide (T.N[j]? = some y) && (decide (i ≠ j) && (decide (x ≠ y) && (decide (px.line = py.line) && ((match sc.names.lookup x with | some .local => true | _ => false) && ((match sc.names.lookup y with | some .local => true | _ => false) &&
      (ckL c sc fnT [a, b] xs && (!(foldedForSure 8 a && foldedForSure 8 b) && !(constantsAlone 8 a && constantsAlone 8 b)))))))))
  | _, _, _, _ => false
def parB2 (T : Tb) (c : Ck) (sc : Scope) (is : List Nat) (xs : List Ex) (tg e : Expr) : Bool :=
  match tg, e with
  | .Tuple [.Name x px, .Name y py] k p, .Tuple [a, b] _ _ => (!(sc.names.lookup x == some .local) || !(sc.names.lookup y == some .local)) && (chkGs T sc fnT (is.map .nm) [.Name x px, .Name y py] && ckL c sc fnT [a, b] xs)
  | _, _ => false
def ckS (T : Tb) (c : Ck) (r : Stmt → Sm → Bool) (sc : Scope) (st : Stmt) (s : Sm) : Bool :=
  let c' := c
  match s with
  | .asg t ex => match st with
    | .Assign [tg] e pos => asgB T c sc t ex tg e pos
    | _ => false
  | .par is xs => match st with
    | .Assign [tg] e _ => parB T c sc is xs tg e || parB2 T c sc is xs tg e
    | _ => false
  | .put o i ex => match st with
    | .Assign [.Subscript o' i' _] e _ => noSlice i' && (noComp e && (c.E sc fnT o' o && (c.E sc fnT i' i && c.E sc fnT e ex)))
    | _ => false
  | .ex x => match st with
    | .Expr e _ => noComp e && c.E sc fnT e x
    | _ => false
  | .ite k a b => match st with
    | .If k' a' b' _ => c.B sc fnT k' k && (chkSs r a' a && chkSs r b' b)
    | _ => false
  | .for t i b => match st with
    | .For tg it b' [] _ => noSet it && (c.I sc fnT tg it i && (chkG T sc fnT t tg && chkSs r b' b))
    | _ => false
  | .while k b => match st with
    | .While k' b' [] _ => c.B sc fnT k' k && chkSs r b' b
    | _ => false
  | .ret x => match st with
    | .Return (some e) _ => c.E sc fnT e x
    | _ => false
  | .ret0 => match st with
    | .Return none _ => true
    | _ => false
  | .brk => match st with
    | .Break _ => true
    | _ => false
  | .cnt => match st with
    | .Continue _ => true
    | _ => false
  | .pass => match st with
    | .Pass _ => true
    | .Expr (.Constant (.str _) _ _) _ => true
    | _ => false
  | .frz _ => false
  | .wipe _ => false
  | .never => true
  | .setf cs o f ex => match st with
    | .Assign [.Attribute o' f' _] e _ => (f == f') && (c.E sc fnT o' o && (c.E sc fnT e ex && cs.all fun cn => T.cl.contains cn && T.na.contains (cn, f)))
    | _ => false
  | .forw _ t i b => match st with
    | .For tg it b' [] _ => noSet it && (c.I sc fnT tg it i && (chkG T sc fnT t tg && chkSs r b' b))
    | _ => false
  | .star is r x => match st with
    | .Assign [.Tuple ts _ _] e _ => match splitStar ts with
      | some (es, t, _) => es.all noStar && (noStar t && (decide (es.length = is.length) && (chkGs T sc fnT (is.map .nm ++ [.nm r]) (es ++ [t]) && (noComp e && (noTup e && c.E sc fnT e x)))))
      | none => false
    | _ => false
  | .raise c fn xs => match st with
    | .Raise (some (.Call (.Name x _) (e :: es) [] _)) none _ => decide (x = c) && (isGl sc x && (plainNm x && (T.xr.contains c && (decide (T.xs.lookup c = some fn) && (!fn.isEmpty && (decide (fn.length ≤ 900) && (noStar e && (es.all noStar && ckL c' sc fnT (e :: es) xs))))))))
    | _ => false
  | .tryx b hs => match st with
    | .Try body (h₀ :: hds) [] [] _ => chkHd T.x T.N sc (T.bn.contains "isinstance") hs (h₀ :: hds) && chkSs r body b
    | _ => false
def cks (T : Tb) (c : Ck) (sc : Scope) : Nat → Stmt → Sm → Bool
  | 0 => fun _ _ => false
  | n + 1 => ckS T c (cks T c sc n) sc
section
variable {G : GX} {C : Calls} {T : Tb} {c : Ck} {sc : Scope} {X : Cx} {Ww : WX}
theorem chkSs_ok {f : Stmt → Sm → Bool} (h1 : ∀ st s, f st s = true → PS X st (RS G Ww C s)) : ∀ {ss : List Sm} {sts : List Stmt}, chkSs f sts ss = true → PSs X sts (RSs G Ww C ss)
  | [], [], _ => ss_nil
  | [], _ :: _, h => by unfold chkSs at h; cases h
  | s :: ss, sts, h => by
    cases s with
    | frz i =>
      have h' : chkSs f sts ss = true := by
        cases sts <;> (unfold chkSs at h; exact h)
      exact ss_frz (chkSs_ok h1 h')
    | wipe ws =>
      have h' : chkSs f sts ss = true := by
        cases sts <;> (unfold chkSs at h; exact h)
      exact ss_wipe (chkSs_ok h1 h')
    | _ =>
      cases sts with
      | nil => unfold chkSs at h; cases h
      | cons st sts =>
        unfold chkSs at h
        rw [Bool.and_eq_true] at h
        exact ss_cons (h1 _ _ h.1) (chkSs_ok h1 h.2)
theorem loc_of {x : Str} (h : (match sc.names.lookup x with | some .local => true | _ => false) = true) : sc.names.lookup x = some .local := by
  split at h <;> first | assumption | cases h
theorem asg_ok (g : Gs G C T sc X Ww) (ok : CkOk T c) {t : Tg} {ex : Ex} {tg e : Expr} {pos : Pos} (h : asgB T c sc t ex tg e pos = true) : PS X (.Assign [tg] e pos) (RS G Ww C (.asg t ex)) := by
  have hN : X.N.Nodup := by rw [g.g.N]; exact g.g.nd
  have hkd : X.env.scope.kind = .function := by rw [g.g.sc]; exact g.kind
  cases t with
  | nm i =>
    unfold asgB at h
    dsimp only at h
    split at h
    · rename_i x p
      simp only [Bool.and_eq_true, decide_eq_true_eq] at h
      obtain ⟨h1, h2, h3⟩ := h
      obtain ⟨l1, l2⟩ := g.g.loc (fnn := fnT) h2
      have hi : X.N[i]? = some x := by rw [g.g.N]; exact h1
      have hw := swB_ok hkd x p pos.line e
      by_cases hb : swB sc x p e = true
      · rw [if_pos hb] at h3
        rw [g.g.sc, hb] at hw
        split at h3
        · rename_i elt gs scope pos' m t' i' ec ee
          obtain ⟨tg, iter, ifs, rfl, q⟩ := ckC_ok ok g.g h3
          have hl : X.env.scope.names.lookup x = some .local := by
            rw [g.g.sc]
            unfold swB at hb
            simp only [Bool.and_eq_true] at hb
            exact loc_of hb.1.1
          exact sm_lc g.g.K g.g.calm hN hi hl hw q.hi q.blk q.own q.hg q.ht q.he q.hs
        · cases h3
      · rw [if_neg hb] at h3
        have hb' : swB sc x p e = false := by simpa using hb
        rw [g.g.sc, hb'] at hw
        exact sm_set hN hi l1 l2 (ok.E h3 g.g) hw
    · cases h
  | tp ts =>
    unfold asgB at h
    simp only [Bool.and_eq_true] at h
    obtain ⟨h1, h2, h3, h4, h5⟩ := h
    exact sm_asg (ok.E h5 g.g) (chkG_ok g.g _ _ h2) (sole_noComp h3 _ _) (noTup_sw h4 _ _) h1
theorem par_ok (g : Gs G C T sc X Ww) (ok : CkOk T c) {is : List Nat} {xs : List Ex} {tg e : Expr} {pos : Pos} (h : parB T c sc is xs tg e = true) : PS X (.Assign [tg] e pos) (RS G Ww C (.par is xs)) := by
  unfold parB at h
  split at h
  · rename_i i j ea eb x px y py k1 p1 a b k2 p2
    simp only [Bool.and_eq_true, decide_eq_true_eq, Bool.not_eq_true'] at h
    obtain ⟨h1, h2, h3, h4, h5, h6, h7, h8, h9, h10⟩ := h
    have hx := loc_of h6
    have hy := loc_of h7
    have st := ckL_star h8
    have hb : X.env.blockKind = .function := by unfold Env.blockKind; rw [g.g.sc, g.kind]; rfl
    have kx : X.env.kindOf x = some .local := by unfold Env.kindOf; rw [g.g.sc]; exact hx
    have ky : X.env.kindOf y = some .local := by unfold Env.kindOf; rw [g.g.sc]; exact hy
    refine sm_par g.g.calm (by rw [g.g.N]; exact g.g.nd) (by rw [g.g.N]; exact h1) (by rw [g.g.N]; exact h2) h3 (by rw [g.g.sc]; exact hx) (by rw [g.g.sc]; exact hy) (ckL_ok ok g.g h8) ?_
    have st2 : noStar a = true ∧ noStar b = true := by
      rw [List.all_cons, Bool.and_eq_true, List.all_cons, Bool.and_eq_true] at st
      exact ⟨st.1, st.2.1⟩
    have ne : (y == x) = false := by simpa using fun z : y = x => h4 z.symm
    unfold swappedStores
    simp [hb, kx, ky, h5, h9, h10, ne, Expr.pos, List.eraseDups, List.eraseDupsBy, List.eraseDupsBy.loop]
    intro z
    exfalso
    rcases z with z | z
    · cases a <;> first | exact Bool.noConfusion z | exact Bool.noConfusion (show false = true from st2.1)
    · cases b <;> first | exact Bool.noConfusion z | exact Bool.noConfusion (show false = true from st2.2)
  · cases h
theorem par2_ok (g : Gs G C T sc X Ww) (ok : CkOk T c) {is : List Nat} {xs : List Ex} {tg e : Expr} {pos : Pos} (h : parB2 T c sc is xs tg e = true) : PS X (.Assign [tg] e pos) (RS G Ww C (.par is xs)) := by
  unfold parB2 at h
  split at h
  · rename_i x px y py k1 p1 a b k2 p2
    simp only [Bool.and_eq_true, Bool.or_eq_true, Bool.not_eq_true'] at h
    obtain ⟨h1, h2, h3⟩ := h
    have hl : xs.length ≤ line := by
      unfold ckL at h3
      rw [Bool.and_eq_true] at h3
      have h4 := h3.2
      match xs, h4 with
      | [], h4 => exact Nat.zero_le _
      | [_], h4 => exact (by decide : 1 ≤ line)
      | [_, _], h4 => exact (by decide : 2 ≤ line)
      | _ :: _ :: _ :: _, h4 => simp [all2] at h4
    have hG : chkG T sc fnT (.tp (is.map .nm)) (.Tuple [.Name x px, .Name y py] k1 p1) = true := by
      unfold chkG
      exact h2
    refine sm_par2 hl (sm_asg (se_tup (ckL_ok ok g.g h3)) (chkG_ok g.g _ _ hG) (sole_noComp rfl _ _) (swap_none ?_) rfl)
    rcases h1 with h1 | h1
    · left; unfold Env.kindOf; rw [g.g.sc]; exact h1
    · right; unfold Env.kindOf; rw [g.g.sc]; exact h1
  · cases h
theorem ckS_ok (g : Gs G C T sc X Ww) (ok : CkOk T c) {r : Stmt → Sm → Bool} (hr0 : ∀ {X : Cx} {Ww : WX}, Gs G C T sc X Ww → ∀ st s, r st s = true → PS X st (RS G Ww C s)) {st : Stmt} {s : Sm} (h : ckS T c r sc st s = true) : PS X st (RS G Ww C s) := by
  have hr := fun st s => hr0 g st s
  cases s with
  | asg t ex =>
    unfold ckS at h
    dsimp only at h
    split at h
    · exact asg_ok g ok h
    · cases h
  | par is xs =>
    unfold ckS at h
    dsimp only at h
    split at h
    · rw [Bool.or_eq_true] at h
      rcases h with h | h
      · exact par_ok g ok h
      · exact par2_ok g ok h
    · cases h
  | put o i ex =>
    unfold ckS at h
    dsimp only at h
    split at h
    · simp only [Bool.and_eq_true] at h
      obtain ⟨h1, h2, h4, h5, h6⟩ := h
      exact sm_put g.g.units (ok.E h4 g.g) (ok.E h5 g.g) (ok.E h6 g.g) (noSlice_asg h1) (sole_noComp h2 _ _) (sub_sw _ _ _ _ _)
    · cases h
  | ex x =>
    unfold ckS at h
    dsimp only at h
    split at h
    · simp only [Bool.and_eq_true] at h
      exact sm_ex (ok.E h.2 g.g) (noComp_sw h.1 _ _ _)
    · cases h
  | ite k a b =>
    unfold ckS at h
    dsimp only at h
    split at h
    · simp only [Bool.and_eq_true] at h
      exact sm_ite (ok.B h.1 g.g) (chkSs_ok hr h.2.1) (chkSs_ok hr h.2.2)
    · cases h
  | «for» t i b =>
    unfold ckS at h
    dsimp only at h
    split at h
    · simp only [Bool.and_eq_true] at h
      obtain ⟨h1, h2, h3, h4⟩ := h
      exact sm_for g.pas g.g.calm (ok.I h2 g.g) (chkG_ok g.g _ _ h3) (chkSs_ok hr h4) (noSet_ok h1 _)
    · cases h
  | «while» k b =>
    unfold ckS at h
    dsimp only at h
    split at h
    · simp only [Bool.and_eq_true] at h
      exact sm_while g.pas (ok.B h.1 g.g) (chkSs_ok hr h.2)
    · cases h
  | ret x =>
    unfold ckS at h
    dsimp only at h
    split at h
    · exact sm_ret (ok.E h g.g)
    · cases h
  | ret0 =>
    unfold ckS at h
    dsimp only at h
    split at h
    · exact sm_ret0
    · cases h
  | brk =>
    unfold ckS at h
    dsimp only at h
    split at h
    · exact sm_brk
    · cases h
  | cnt =>
    unfold ckS at h
    dsimp only at h
    split at h
    · exact sm_cnt
    · cases h
  | pass =>
    unfold ckS at h
    dsimp only at h
    split at h
    · exact sm_pass
    · exact sm_doc
    · cases h
  | frz i => unfold ckS at h; cases h
  | wipe i => unfold ckS at h; cases h
  | star is r x =>
    unfold ckS at h
    dsimp only at h
    split at h
    · split at h
      · rename_i es t p0 q
        simp only [Bool.and_eq_true, decide_eq_true_eq] at h
        obtain ⟨h1, h2, h3, h4, h5, h6, h7⟩ := h
        rw [splitStar_ok q]
        exact sm_star g.g.K g.g.calm h1 h2 h3 (chkGs_ok g.g _ _ h4) (ok.E h7 g.g) (sole_noComp h5 _ _) (noTup_sw h6 _ _)
      · cases h
    · cases h
  | setf cs o f ex =>
    unfold ckS at h
    dsimp only at h
    split at h
    · simp only [Bool.and_eq_true, beq_iff_eq] at h
      obtain ⟨rfl, h1, h2, h3⟩ := h
      refine sm_setf (ok.E h1 g.g) (ok.E h2 g.g) (fun cn hc => ?_) (attr_sw _ _ _ _ _ _)
      have q := List.all_eq_true.mp h3 cn hc
      rw [Bool.and_eq_true] at q
      rw [g.g.K]
      exact ⟨(g.g.gl.cl cn (List.contains_iff_mem.mp q.1)).1, g.g.gl.na cn _ (List.contains_iff_mem.mp q.2)⟩
    · cases h
  | forw ws t i b =>
    unfold ckS at h
    dsimp only at h
    split at h
    · simp only [Bool.and_eq_true] at h
      obtain ⟨h1, h2, h3, h4⟩ := h
      exact sm_forw g.pas g.g.calm (ok.I h2 g.g) (chkG_ok g.g _ _ h3) (chkSs_ok hr h4) (noSet_ok h1 _)
    · cases h
  | raise cn fn xs =>
    unfold ckS at h
    dsimp only at h
    split at h
    · simp only [Bool.and_eq_true, decide_eq_true_eq, Bool.not_eq_true', List.isEmpty_eq_false_iff] at h
      obtain ⟨rfl, h1, h2, h3, h4, h5, h6, h7, h8, h9⟩ := h
      exact sm_raise g.g.K g.g.mg g.g.calm g.g.tk (g.g.xi _ _ (List.contains_iff_mem.mp h3) h4) (g.g.glb h1) (plainNm_ok h2).1 h5 h6 (ckL_ok ok g.g h9) h7 h8
    · cases h
  | tryx b hs =>
    unfold ckS at h
    dsimp only at h
    split at h
    · rw [Bool.and_eq_true] at h
      exact sm_tryx g.g.K g.g.mg g.g.N g.g.sc (fun x => by rw [g.g.fn]) g.g.nd g.g.gl.xt (fun hb => g.g.gl.bn _ (List.contains_iff_mem.mp hb)) g.st g.fr g.g.tk h.1 fun W' pn xe tk p => chkSs_ok (fun st s h => hr0 (g.tr tk p) st s h) h.2
    · cases h
  | never => exact PS.of ps_never fun D σ H h => (let ⟨_, _, _, _, _, h⟩ := h; (show False from h))
theorem cks_ok (ok : CkOk T c) : ∀ (n : Nat) {X : Cx} {Ww : WX}, Gs G C T sc X Ww → ∀ st s, cks T c sc n st s = true → PS X st (RS G Ww C s)
  | 0, _, _, _, _, _, h => Bool.noConfusion h
  | n + 1, _, _, g, _, _, h => ckS_ok g ok (fun g st s h => cks_ok ok n g st s h) h
end
end OM
namespace OM
open PySem PySem.Spec L2
/-- all are given, though the last has a default -/
theorem bind_all1 {fd : FuncData} {qs : List Str} {l : Str} {us : List Value} {T : Addr} (h : plainArgs fd.params (qs ++ [l]) none = true) (hd : fd.defaults = .ref T) (nd : (qs ++ [l]).Nodup) (hl : us.length = (qs ++ [l]).length) :
    ∃ k, bindArgs fd ⟨us, []⟩ = seqItems? (.ref T) >>= k ∧ ∀ u, k (some #[u]) = pure ((qs ++ [l]).zip us) := by
  obtain ⟨h1, h2, h3, h4, h5⟩ := plainArgs_ok h
  have h4' : fd.params.args.map (·.arg) = qs ++ [l] := by simpa using h4
  have h5' : fd.params.kwonlyargs = [] := by simpa using h5
  have miss := miss_nil hl qs (fun n hn => List.mem_append_left _ hn) _ rfl
  have hin := zip_lookup hl (n := l) (by simp)
  unfold bindArgs
  simp only [h1, h2, h3, h4', h5', hd, hl, List.map_nil, List.nil_append]
  refine ⟨_, rfl, fun u => ?_⟩
  have hnone : (List.lookup l ((qs ++ [l]).zip us)).isNone = false := by
    cases e : List.lookup l ((qs ++ [l]).zip us) with
    | none => rw [e] at hin; cases hin
    | some _ => rfl
  have hb := zip_binds hl nd
  rw [List.filterMap_append] at hb
  simp [miss, hnone, hb]
theorem zip_snoc_lookup {qs : List Str} {l : Str} {us : List Value} {u : Value} (hl : us.length = qs.length) : (qs ++ [l]).zip (us ++ [u]) = qs.zip us ++ [(l, u)] := by
  rw [List.zip_append hl.symm]
  rfl
/-- the last is left to its default -/
theorem bind_last1 {fd : FuncData} {qs : List Str} {l : Str} {us : List Value} {T : Addr} (h : plainArgs fd.params (qs ++ [l]) none = true) (hd : fd.defaults = .ref T) (nd : (qs ++ [l]).Nodup) (hl : us.length = qs.length) :
    ∃ k, bindArgs fd ⟨us, []⟩ = seqItems? (.ref T) >>= k ∧ ∀ u, k (some #[u]) = pure ((qs ++ [l]).zip (us ++ [u])) := by
  obtain ⟨h1, h2, h3, h4, h5⟩ := plainArgs_ok h
  have h4' : fd.params.args.map (·.arg) = qs ++ [l] := by simpa using h4
  have h5' : fd.params.kwonlyargs = [] := by simpa using h5
  have hln : l ∉ qs := fun z => (List.nodup_append.mp nd).2.2 l z l (by simp) rfl
  have ez : (qs ++ [l]).zip us = qs.zip us := by
    clear h h4 h4' nd hln
    induction qs generalizing us with
    | nil => cases us with
      | nil => rfl
      | cons _ _ => cases hl
    | cons q qs ih =>
      cases us with
      | nil => cases hl
      | cons u us =>
        show (q, u) :: (qs ++ [l]).zip us = _
        rw [ih (by simpa using hl)] <;> rfl
  have miss := miss_nil hl qs (fun _ h => h) _ rfl
  have hnone : List.lookup l (qs.zip us) = none := zip_lookup_none hln
  unfold bindArgs
  simp only [h1, h2, h3, h4', h5', hd, hl, List.map_nil, List.nil_append, ez]
  refine ⟨_, rfl, fun u => ?_⟩
  have hb := zip_binds (ps := qs ++ [l]) (us := us ++ [u]) (by simp [hl]) nd
  rw [zip_snoc_lookup hl] at hb
  rw [List.filterMap_append] at hb
  simp [miss, hnone, zip_snoc_lookup hl]
  rw [if_neg (by omega), hb]
/-- the last by its name -/
theorem bind_kw1 {fd : FuncData} {qs : List Str} {l : Str} {us : List Value} {w : Value} (h : plainArgs fd.params (qs ++ [l]) (some l) = true) (hd : fd.defaults = .none) (nd : (qs ++ [l]).Nodup) (hl : us.length = qs.length) :
    bindArgs fd ⟨us, [(l, w)]⟩ = pure ((qs ++ [l]).zip (us ++ [w])) := by
  obtain ⟨h1, h2, h3, h4, h5⟩ := plainArgs_ok h
  have h4' : fd.params.args.map (·.arg) = qs := by simpa using h4
  have h5' : fd.params.kwonlyargs.map (·.arg) = [l] := by simpa using h5
  have hln : l ∉ qs := fun z => (List.nodup_append.mp nd).2.2 l z l (by simp) rfl
  have hnone : List.lookup l (qs.zip us) = none := zip_lookup_none hln
  have hb := zip_binds (ps := qs ++ [l]) (us := us ++ [w]) (by simp [hl]) nd
  rw [zip_snoc_lookup hl] at hb
  have hlk : List.lookup l (qs.zip us ++ [(l, w)]) = some w := by
    rw [List.lookup_append, hnone]
    simp
  have miss : List.filter (fun n => (List.lookup n (qs.zip us ++ [(l, w)])).isNone) qs = [] := by
    rw [List.filter_eq_nil_iff]
    intro n hn z
    have q := zip_lookup hl hn
    rw [List.lookup_append] at z
    cases e : List.lookup n (qs.zip us) with
    | none => rw [e] at q; cases q
    | some _ => rw [e] at z; cases z
  unfold bindArgs
  simp [h1, h2, h3, h4', h5', hd, hl, seqItems?, hnone, hlk, miss, zip_snoc_lookup hl]
  simp only [List.filterMap_append, List.filterMap_cons, List.filterMap_nil] at hb
  rw [hlk] at hb
  simp at hb
  simp [hb]
  rfl
/-- the keyword-only one left to its default -/
theorem bind_kwd1 {fd : FuncData} {qs : List Str} {l : Str} {us : List Value} {Dk : Addr} (h : plainArgs fd.params (qs ++ [l]) (some l) = true) (hd : fd.defaults = .none) (hk : fd.kwdefaults = .ref Dk) (nd : (qs ++ [l]).Nodup) (hl : us.length = qs.length) :
    ∃ k, bindArgs fd ⟨us, []⟩ = nsGet Dk l >>= k ∧ ∀ u, k (some u) = pure ((qs ++ [l]).zip (us ++ [u])) := by
  obtain ⟨h1, h2, h3, h4, h5⟩ := plainArgs_ok h
  have h4' : fd.params.args.map (·.arg) = qs := by simpa using h4
  have h5' : fd.params.kwonlyargs.map (·.arg) = [l] := by simpa using h5
  have hln : l ∉ qs := fun z => (List.nodup_append.mp nd).2.2 l z l (by simp) rfl
  have hnone : List.lookup l (qs.zip us) = none := zip_lookup_none hln
  have miss := miss_nil hl qs (fun _ h => h) _ rfl
  unfold bindArgs
  simp [h1, h2, h3, h4', h5', hd, hk, hl, seqItems?, hnone, miss]
  have e : notAStandIn Value.none = pure () := rfl
  rw [e, pure_bind]
  refine ⟨_, rfl, fun u => ?_⟩
  have hb := zip_binds (ps := qs ++ [l]) (us := us ++ [u]) (by simp [hl]) nd
  rw [zip_snoc_lookup hl, List.filterMap_append] at hb
  simp [zip_snoc_lookup hl, hb]
/-- what the written part says of a def's defaults, and what follows -/
theorem bnd_of {G : GX} {K : PySem.W.Frag} {x qual : Str} {params : Arguments} {body : List Stmt} {scope : Scope} {dvs : List V} {kws : List (Str × V)} {f : Addr} {fd : FuncData} {ps : List Str} {dp : Option D} {kw : Option (Str × Option D)} (hK : G.K = K) (F : FunD K x qual params body scope dvs kws f fd) (nd : ps.Nodup)
    (h : plainArgs params ps (kw.map (·.1)) = true) (hdp : match (generalizing := false) dp with | none => dvs = [] | some d => kw = none ∧ ps ≠ [] ∧ ∃ v, dvs = [v] ∧ ∀ W, Rel G W d v) (hkw : match (generalizing := false) kw with | some (k, some d) => ∃ v, kws = [(k, v)] ∧ ∀ W, Rel G W d v | _ => True) :
    Bnd G fd ps ⟨kw.isNone, (match (generalizing := false) kw with | some (_, d) => d | none => dp), kw.map (·.1)⟩ := by
  subst hK
  obtain ⟨oc, od, dV, kV, doc, pm, an, cdv, ct, osl, rfl, lk, hcd, hD, hKw⟩ := F.ex
  have snoc : ps ≠ [] → ∃ qs l, ps = qs ++ [l] := fun hne => ⟨ps.dropLast, ps.getLast hne, (List.dropLast_concat_getLast hne).symm⟩
  refine ⟨fun hf => ?_, fun d hd => ?_, fun k hk => ?_⟩
  · cases kw with
    | some _ => cases hf
    | none =>
      intro s us hin hl
      rw [List.append_nil] at hl ⊢
      cases dp with
      | none =>
        rcases hD with ⟨_, e⟩ | ⟨e, _⟩
        · subst e
          exact .of_eq (bind_plain h rfl nd hl)
        · exact absurd hdp e
      | some d =>
        obtain ⟨_, hne, v, rfl, _⟩ := hdp
        obtain ⟨qs, l, rfl⟩ := snoc hne
        rcases hD with ⟨e, _⟩ | ⟨_, T, o, its, m, e, lT, oT, rT⟩
        · cases e
        · subst e
          cases rT with
          | cons r rn =>
            cases rn
            obtain ⟨k, e1, e2⟩ := bind_all1 (fd := PySem.W.fnOf x qual params body scope (.ref T) kV doc pm an cdv ct) h rfl nd hl
            refine BindsTo.of_looks fun M => ?_
            rw [e1]
            exact looks_items hin lT oT (.of_pure (e2 _))
  · cases kw with
    | none =>
      have hd' : dp = some d := hd
      subst hd'
      obtain ⟨_, hne, v, rfl, hv⟩ := hdp
      obtain ⟨qs, l, rfl⟩ := snoc hne
      rcases hD with ⟨e, _⟩ | ⟨_, T, o, its, m, e, lT, oT, rT⟩
      · cases e
      · subst e
        cases rT with
        | cons r rn =>
          cases rn
          refine ⟨v, _, r, hv, fun s us hin hl => ?_⟩
          obtain ⟨k, e1, e2⟩ := bind_last1 (us := us) (fd := PySem.W.fnOf x qual params body scope (.ref T) kV doc pm an cdv ct) h rfl nd (by simpa using hl)
          refine BindsTo.of_looks fun M => ?_
          rw [e1]
          exact looks_items hin lT oT (.of_pure (e2 _))
    | some kd =>
      obtain ⟨k, o⟩ := kd
      have hd' : o = some d := hd
      subst hd'
      obtain ⟨v, rfl, hv⟩ := hkw
      have hdp0 : dvs = [] := by
        cases dp with
        | none => exact hdp
        | some d => obtain ⟨z, _⟩ := hdp; cases z
      subst hdp0
      rcases hD with ⟨_, e⟩ | ⟨e, _⟩
      · subst e
        rcases hKw with e | ⟨Dk, e, hq⟩
        · cases e
        · subst e
          obtain ⟨u, e1, r⟩ := hq (k, v) (by simp)
          obtain ⟨_, _, _, h4, _⟩ := plainArgs_ok h
          have h4' : params.args.map (·.arg) ++ [k] = ps := h4
          subst h4'
          refine ⟨v, u, r, hv, fun s us hin hl => ?_⟩
          obtain ⟨k2, e2, e3⟩ := bind_kwd1 (us := us) (fd := PySem.W.fnOf x qual params body scope .none (.ref Dk) doc pm an cdv ct) h rfl rfl nd (by simpa using hl)
          refine BindsTo.of_looks fun M => ?_
          rw [e2]
          exact (PySem.W.looks_nsIn hin e1).andThen (.of_pure (e3 _))
      · exact absurd rfl e
  · cases kw with
    | none => cases hk
    | some kd =>
      obtain ⟨k', o⟩ := kd
      cases hk
      have hdp0 : dvs = [] := by
        cases dp with
        | none => exact hdp
        | some d => obtain ⟨z, _⟩ := hdp; cases z
      subst hdp0
      intro s us w hin hl
      obtain ⟨_, _, _, h4, _⟩ := plainArgs_ok h
      have h4' : params.args.map (·.arg) ++ [k'] = ps := h4
      subst h4'
      rcases hD with ⟨_, e⟩ | ⟨e, _⟩
      · subst e
        exact .of_eq (bind_kw1 h rfl nd (by simpa using hl))
      · exact absurd rfl e
end OM
namespace OM
open PySem PySem.Spec L2
/-- an exception class: its fields (its __init__'s parameters), the class whose __init__ it calls, its __init__'s statement, whether it is made, the classes asked of with the answers -/
structure XRow where
  cn : Str
  fn : List Str := []
  base : Str := "MootError"
  st : Stmt := .Pass ⟨0, 0, 0, 0⟩
  ini : Bool := true
  as_ : List (Str × Bool) := []
def XRow.dfn (r : XRow) : He.DefD := ⟨(r.cn, some "__init__"), "__init__", r.cn ++ ".__init__", defArgs r.st, defBody r.st, defScope r.st, [], []⟩
def XRow.ps (r : XRow) : List Str := ("self" : Str) :: r.fn
def chkX0 (r : XRow) : Bool := fnScB r.ps r.ps (defScope r.st) && (plainArgs (defArgs r.st) r.ps none && (initB r.base r.fn (defScope r.st) (defBody r.st) && (!r.fn.isEmpty && (decide (r.fn.length ≤ 900) && (plainNm r.base && r.fn.all plainNm)))))
def excB (K : PySem.W.Frag) (C : Addr) : Bool := match K.lookup C with
  | some ⟨.type c, _, .cls cd, sl⟩ => decide (c = "type") && ((match cd.mro with | .ref C' :: bm => decide (C' = C) && PySem.HandSPX.refsVE bm | _ => false) && (cd.hasDict && (!cd.hasDel && (match sl.toList with | [_, _, _, _, some (.builtin n), _] => decide (n = "ValueError.__new__") | _ => false))))
  | _ => false
theorem excB_ok {K : PySem.W.Frag} {C : Addr} (h : excB K C = true) : ∃ nm q N bs bm sn sub ab col dd k0 k1 k2 k3 k5, K.lookup C = some (excClassObj nm q C N bs bm true sn sub ab col dd k0 k1 k2 k3 k5 "ValueError.__new__") ∧ PySem.HandSPX.refsVE bm = true := by
  unfold excB at h
  cases q : K.lookup C with
  | none => rw [q] at h; cases h
  | some o =>
    obtain ⟨oc, od, dt, osl⟩ := o
    rw [q] at h
    cases oc with
    | type c =>
      cases dt with
      | cls cd =>
        obtain ⟨f1, f2, f3, f4, f5, f6, f7, f8, f9, f10, f11⟩ := cd
        dsimp only at h
        simp only [Bool.and_eq_true, decide_eq_true_eq, Bool.not_eq_true'] at h
        obtain ⟨rfl, h2, rfl, rfl, h5⟩ := h
        cases f3 with
        | nil => cases h2
        | cons v bm =>
          cases v with
          | ref C' =>
            simp only [Bool.and_eq_true, decide_eq_true_eq] at h2
            obtain ⟨rfl, h2⟩ := h2
            split at h5
            · rename_i k0 k1 k2 k3 n k5 e
              have h5 := of_decide_eq_true h5
              subst h5
              have es : osl = #[k0, k1, k2, k3, some (.builtin "ValueError.__new__"), k5] := by
                cases osl
                simp only at e
                rw [e]
              exact ⟨f1, f5, f4, f2, bm, f7, f8, f9, f10, od, k0, k1, k2, k3, k5, by rw [es], h2⟩
            · cases h5
          | _ => cases h2
      | _ => cases h
    | _ => cases dt <;> cases h
abbrev fnd (K : PySem.W.Frag) (C : Addr) (f : Str) (v : Option Value) : Bool := decide (PySem.W.findIn K (.ref C) f = some v)
def xkB (K : PySem.W.Frag) (C : Addr) (fn : List Str) : Bool := excB K C && (fnd K C "__setattr__" (some (.builtin "object.__setattr__")) && (decide (PySem.W.subIn K (.ref C) (.type "BaseException") = some true) && (decide (PySem.W.typeIn K (.ref C) = some (.type "type")) && (PySem.W.keepIn K (.ref C) &&
  (xfB K C && ((PySem.W.clsIn K C).isSome && (fnd K C "__class__" (some (.builtin "object.__class__")) && (decide (PySem.W.specialIn K (.builtin "object.__class__") "__get__" = some (some (.builtin "getset_descriptor.__get__"))) && (decide (PySem.W.takesIn K (.builtin "object.__class__") = some true) &&
  (decide (PySem.W.mroIn K C (.type "object") = some true) && fn.all fun f => fnd K C f none))))))))))
theorem xkB_ok {K : PySem.W.Frag} {C : Addr} {fn : List Str} (h : xkB K C fn = true) : XcK K C fn := by
  unfold xkB fnd at h
  simp only [Bool.and_eq_true, decide_eq_true_eq, List.all_eq_true] at h
  obtain ⟨h1, h2, h3, h4, h5, h6, h7, h8, h9, h10, h11, h12⟩ := h
  exact ⟨⟨excB_ok h1, h2, h3, h4, h5⟩, xfB_ok h6, h7, h8, h9, h10, h11, h12⟩
/-- a name's value that is a class -/
def nmV (K : PySem.W.Frag) (y : Str) : Option Value := match PySem.W.nsIn K mainGlobals y with
  | some (some (.ref a)) => some (.ref a)
  | some none => if y ≠ "__name__" then (match bootBuiltins y with
    | some (.type t) => some (.type t)
    | _ => none) else none
  | _ => none
def xaB (K : PySem.W.Frag) (C : Addr) (y : Str) (b : Bool) : Bool := match nmV K y with
  | some u => decide (PySem.W.exmOne K (.ref C) u = some b) && decide (PySem.W.kitOne K (.ref C) u = some b)
  | none => false
theorem xaB_ok {G : GX} {h : Heap} (X : G.K.In h) (Gm : h.Ns mainGlobals G.mg) {C : Addr} {y : Str} {b : Bool} (e : xaB G.K C y b = true) : ∃ u v, NmV G y u ∧ RelV v u ∧ (∀ w, RelV v w → w = u) ∧ PySem.W.exmOne G.K (.ref C) u = some b ∧ PySem.W.kitOne G.K (.ref C) u = some b := by
  unfold xaB at e
  cases q : nmV G.K y with
  | none => rw [q] at e; cases e
  | some u =>
    rw [q] at e
    simp only [Bool.and_eq_true, decide_eq_true_eq] at e
    have key : (∃ a, u = .ref a ∧ G.mg y = some (.ref a)) ∨ ∃ t, u = .type t ∧ G.mg y = none ∧ bootBuiltins y = some (.type t) ∧ y ≠ "__name__" := by
      unfold nmV at q
      cases en : PySem.W.nsIn G.K mainGlobals y with
      | none => rw [en] at q; cases q
      | some o =>
        rw [en] at q
        cases o with
        | none =>
          dsimp only at q
          split at q
          · rename_i hn
            split at q
            · rename_i t hb
              cases q
              exact .inr ⟨t, rfl, PySem.W.mg_none_of X Gm en, hb, hn⟩
            · cases q
          · cases q
        | some v =>
          cases v with
          | ref a => cases q; exact .inl ⟨a, rfl, PySem.W.mg_of X Gm en⟩
          | _ => cases q
    rcases key with ⟨a, rfl, h1⟩ | ⟨t, rfl, h1, h2, h3⟩
    · exact ⟨_, .ref a, .inl h1, rfl, fun w hw => hw, e.1, e.2⟩
    · exact ⟨_, .ty t, .inr ⟨h1, h2, h3⟩, rfl, fun w hw => hw, e.1, e.2⟩
/-- how it is made -/
def xmB (K : PySem.W.Frag) (r : XRow) : Bool := fnd K (He.ga K r.cn) "__init__" (some (.ref (He.ma K (He.ga K r.cn) "__init__"))) && (decide (PySem.W.typeIn K (.ref (He.ma K (He.ga K r.cn) "__init__")) = some (.type "function")) && (decide (PySem.W.nsIn K mainGlobals r.base = some (some (.ref (He.ga K r.base)))) &&
  (PySem.W.readsIn K (He.ga K r.base) (.type "type") && (decide (PySem.W.specialIn K (.ref (He.ga K r.base)) "__getattribute__" = some (some (.builtin "type.__getattribute__"))) && (match PySem.W.findCls K (.ref (He.ga K r.base)) (.type "type") "__init__" with | some (.val (.builtin b)) => decide (b = "ValueError.__init__") | _ => false)))))
def XRow.okB (K : PySem.W.Frag) (r : XRow) : Bool := decide (PySem.W.nsIn K mainGlobals r.cn = some (some (.ref (He.ga K r.cn)))) && (xkB K (He.ga K r.cn) r.fn && ((r.as_.all fun p => xaB K (He.ga K r.cn) p.1 p.2) && (!r.ini || xmB K r)))
theorem fun_ok {Pr : Program} {w : World} {base : Heap} {K : PySem.W.Frag} {mg : Str → Option Value} {x qual : Str} {params : Arguments} {body : List Stmt} {scope : Scope} {dvs : List V} {kws : List (Str × V)} {f : Addr} {fd : FuncData} {CX : CXT} {N ps : List Str} {k : Nat} {sp : Sp} (F : FunD K x qual params body scope dvs kws f fd) (S : FnScope N ps scope) (len : ∀ vs H Q E, sp vs H Q E → vs.length = ps.length)
    (hbody : ∀ (cdv : Value) (A : Around) (outer : List Env) (s : Shared) (H : Hp) (vs : List V) (Q : VK) (E : XK), (∃ oc od osl, K.lookup f = some ⟨oc, od, .func fd, osl⟩ ∧ fd.code = cdv ∧ PySem.W.codeIn K cdv qual = true) → Room k (A.deeper (PyProof.Rows.envOfC qual scope s.heap.objs.size f cdv)) → sp vs H Q E →
      ∃ t, PSs (cxOf CX Pr w K mg base N qual scope f cdv A outer s H E) body t ∧ t { nx := fun _ H' => Q .non H', rt := Q } (L2.start N vs) H) : FnOk Pr w K mg base CX (k + 1) f fd ps sp := by
  obtain ⟨oc, od, dV, kV, doc, pm, an, cdv, ct, osl, rfl, lk, hcd, _, _⟩ := F.ex
  exact fn_of lk hcd S len fun A outer s H vs Q E hr hsp => hbody cdv A outer s H vs Q E ⟨oc, od, osl, lk, rfl, hcd⟩ hr hsp
/-- the __init__ keeps its promise -/
theorem xinit_ok {Pr : Program} {w : World} {base : Heap} {K : PySem.W.Frag} {mg : Str → Option Value} {r : XRow} {fd : FuncData} (F : FunD K r.dfn.name r.dfn.qual (defArgs r.st) (defBody r.st) (defScope r.st) [] [] (He.ma K (He.ga K r.cn) "__init__") fd) (h : chkX0 r = true) (k : XcK K (He.ga K r.cn) r.fn) (hb : mg r.base = some (.ref (He.ga K r.base))) (m : xmB K r = true) :
    FnOk Pr w K mg base (L2.CX Pr w) 1 (He.ma K (He.ga K r.cn) "__init__") fd (("self" : Str) :: r.fn) (spI (He.ga K r.cn) r.fn) ∧ Binds K fd (("self" : Str) :: r.fn) [] ∧ r.fn.Nodup := by
  unfold chkX0 at h
  simp only [Bool.and_eq_true, decide_eq_true_eq, List.all_eq_true, Bool.not_eq_true'] at h
  obtain ⟨h1, h2, h3, h4, h5, h6, h7⟩ := h
  have S := fnScB_ok h1
  have nd : (("self" : Str) :: r.fn).Nodup := S.nd
  unfold xmB fnd at m
  simp only [Bool.and_eq_true, decide_eq_true_eq] at m
  obtain ⟨m1, m2, m3, m4, m5, m6⟩ := m
  have m6 : PySem.W.findCls K (.ref (He.ga K r.base)) (.type "type") "__init__" = some (.val (.builtin "ValueError.__init__")) := by
    split at m6
    · rename_i b e
      rw [e, of_decide_eq_true m6]
    · cases m6
  refine ⟨fun_ok F S (fun vs H Q E hsp => ?_) fun cdv A outer s H vs Q E _ _ hsp => ?_, ?_, (List.nodup_cons.mp nd).2⟩
  · obtain ⟨a, us, rfl, ul, _⟩ := hsp
    show us.length + 1 = r.fn.length + 1
    rw [ul]
  · refine ⟨_, init_body (b := r.base) (B := He.ga K r.base) (fn := r.fn) h3 k.ox rfl (List.nodup_cons.mp nd).2 (fun x hx => ?_) hb (plainNm_ok h6).1 ⟨m4, m5⟩ m6 (fun f hf => ⟨k.no f hf, (plainNm_ok (h7 f hf)).1, (plainNm_ok (h7 f hf)).2.1⟩), init_start h5 nd hsp⟩
    have q := S.par x hx
    exact q.elim .inl fun z => .inr (.inl z)
  · obtain ⟨oc, od, dV, kV, doc, pm, an, cdv, ct, osl, rfl, lk, hcd, hD, hKw⟩ := F.ex
    intro s us hin hl
    rw [List.append_nil] at hl ⊢
    rcases hD with ⟨_, e⟩ | ⟨e, _⟩
    · subst e
      exact .of_eq (bind_plain h2 rfl nd hl)
    · exact absurd rfl e
end OM
namespace OM
open PySem PySem.Spec L2
/-- one def of the text: its class, its name, its statement, its slots, what the interpreter runs, the last parameter's default, the keyword-only parameter and its default -/
structure Row where
  cn : Option Str := none
  name : Str
  st : Stmt
  N : List Str
  df : Df
  dp : Option D := none
  kw : Option (Str × Option D) := none
  /-- it makes lambdas -/
  lam : Bool := false
def Row.at_ (r : Row) : Str × Option Str := match r.cn with
  | none => (r.name, none)
  | some c => (c, some r.name)
def Row.qual (r : Row) : Str := match r.cn with
  | none => r.name
  | some c => c ++ "." ++ r.name
def Row.sig (r : Row) : Sig := ⟨r.kw.isNone, (match (generalizing := false) r.kw with | some (_, d) => d | none => r.dp), r.kw.map (·.1)⟩
def Row.ps (r : Row) : List Str := r.N.take r.df.np
def chkRow (T : Tb) (k : Nat) (r : Row) : Bool := fnScB r.N r.ps (defScope r.st) && (decide (r.df.ns = r.N.length) && (decide (r.df.np ≤ r.N.length) && (plainArgs (defArgs r.st) r.ps (r.kw.map (·.1)) && ((r.dp.isNone || (r.kw.isNone && !r.ps.isEmpty)) &&
  chkSs (cks { T with N := r.N, lam := r.lam } (ck { T with N := r.N, lam := r.lam } k) (defScope r.st) k) (defBody r.st) r.df.body))))
section
variable {Pr : Program} {w : World} {base : Heap} {G : GX} {T : Tb} {rows : List Row} {k : Nat}
theorem Row.len {r : Row} (h : r.df.np ≤ r.N.length) : r.ps.length = r.df.np := by
  unfold Row.ps
  rw [List.length_take]
  omega
theorem callN_at {n f : Nat} {ds : List D} {st : Store} {kk : D → Store → Prop} {xx : Xc → Store → Prop} {P : Defs} (h : wpR (callN P n f ds st) kk xx) : ∃ m df, n = m + 1 ∧ P[f]? = some df ∧ ds.length = df.np ∧ wpR (runD (callN P m) df ds st) kk xx := by
  cases n with
  | zero => exact h.elim
  | succ m =>
    have h' : wpR (match P[f]? with
      | some df => runD (callN P m) df ds st
      | none => none) kk xx := h
    cases e : P[f]? with
    | none => rw [e] at h'; exact h'.elim
    | some df =>
      rw [e] at h'
      refine ⟨m, df, rfl, rfl, ?_, h'⟩
      by_cases z : ds.length = df.np
      · exact z
      · have h2 : wpR (runD (callN P m) df ds st) kk xx := h'
        unfold runD at h2
        rw [if_neg z] at h2
        exact h2.elim
theorem start_rel {W : Wl} {N : List Str} {ds : List D} {vs : List V} (r : RelL G W ds vs) (np ns : Nat) (hn : ns = N.length) (hl : ds.length = np) : FRel G W (ds.map some ++ List.replicate (ns - np) none) (L2.start N vs) := by
  have hlv := r.length
  refine ⟨?_, fun i d h => ?_⟩
  · unfold L2.start
    simp only [List.length_append, List.length_map, List.length_replicate]
    omega
  · by_cases hi : i < ds.length
    · rw [List.getElem?_append_left (by simpa using hi), List.getElem?_map] at h
      cases e : ds[i]? with
      | none => rw [e] at h; cases h
      | some d' =>
        rw [e] at h
        cases h
        obtain ⟨v, e1, r1⟩ := r.get e
        refine ⟨v, ?_, r1⟩
        unfold L2.start
        rw [List.getElem?_append_left (by rw [List.length_map]; omega), List.getElem?_map, e1] <;> rfl
    · rw [List.getElem?_append_right (by simpa using hi), List.getElem?_replicate] at h
      split at h <;> cases h
/-- a default as the written part has it -/
def DfOk (G : GX) (r : Row) (dvs : List V) (kws : List (Str × V)) : Prop :=
  (match (generalizing := false) r.dp with | none => dvs = [] | some d => ∃ v, dvs = [v] ∧ ∀ W, Rel G W d v) ∧ (match (generalizing := false) r.kw with | some (k, some d) => ∃ v, kws = [(k, v)] ∧ ∀ W, Rel G W d v | _ => True)
/-- what stands behind the top -/
structure RowsOk (G : GX) (T : Tb) (rows : List Row) (k : Nat) : Prop where
  lam : ∀ (f : Nat) (r : Row), rows[f]? = some r → r.lam = true → G.fns f = He.fAd G.K r.at_ ∧ ((He.cT G.K r.at_).2, (r.qual ++ ".<locals>.") ++ "<lambda>") ∈ G.tb ∧ ∀ p ∈ G.tb, p.1 = (He.cT G.K r.at_).2 → p.2 = (r.qual ++ ".<locals>.") ++ "<lambda>"
  nf : T.nf = rows.length
  sg : T.sg = rows.map Row.sig
  gl : GlobOk G T
  fn : ∀ (f : Nat) (r : Row), rows[f]? = some r → ∃ dvs kws fd, FunD G.K r.name r.qual (defArgs r.st) (defBody r.st) (defScope r.st) dvs kws (G.fns f) fd ∧ DfOk G r dvs kws
  ck : ∀ (f : Nat) (r : Row), rows[f]? = some r → chkRow T k r = true
  xi : ∀ c fn, c ∈ T.xr → T.xs.lookup c = some fn → ∃ (r : XRow) (fd : FuncData), r.cn = c ∧ r.fn = fn ∧ FunD G.K r.dfn.name r.dfn.qual (defArgs r.st) (defBody r.st) (defScope r.st) [] [] (He.ma G.K (He.ga G.K r.cn) "__init__") fd ∧ chkX0 r = true ∧ XcK G.K (He.ga G.K r.cn) r.fn ∧ G.mg r.base = some (.ref (He.ga G.K r.base)) ∧ xmB G.K r = true ∧ G.cl c = He.ga G.K r.cn ∧ G.mg c = some (.ref (He.ga G.K r.cn))
theorem RowsOk.s (R : RowsOk G T rows k) {f : Nat} {r : Row} (h : rows[f]? = some r) : T.s f = r.sig := by
  unfold Tb.s
  rw [R.sg, List.getD_eq_getElem?_getD, List.getElem?_map, h]
  rfl
theorem row_bnd {r : Row} {f : Addr} {fd : FuncData} {dvs : List V} {kws : List (Str × V)} (F : FunD G.K r.name r.qual (defArgs r.st) (defBody r.st) (defScope r.st) dvs kws f fd) (d : DfOk G r dvs kws) (h : chkRow T k r = true) : Bnd G fd r.ps r.sig := by
  unfold chkRow at h
  simp only [Bool.and_eq_true, decide_eq_true_eq] at h
  obtain ⟨h1, h2, h3, h4, h5, h6⟩ := h
  have S := fnScB_ok h1
  have nd : r.ps.Nodup := S.nd.sublist (List.take_sublist _ _)
  refine bnd_of (dp := r.dp) (kw := r.kw) rfl F nd h4 ?_ d.2
  have d1 := d.1
  cases e : r.dp with
  | none => rw [e] at d1; exact d1
  | some dd =>
    rw [e] at d1 h5
    have h5' : r.kw.isNone = true ∧ (!r.ps.isEmpty) = true := by simpa using h5
    exact ⟨Option.isNone_iff_eq_none.mp h5'.1, (fun z => by have := h5'.2; rw [z] at this; cases this), d1⟩
theorem all_fns (R : RowsOk G T rows k) (hT : ∀ r ∈ rows, r.lam = true → LamX.TabB base G.mg (He.cT G.K r.at_).1 (He.cT G.K r.at_).2) : ∀ (n f : Nat) (r : Row), rows[f]? = some r → ∀ dvs kws fd, FunD G.K r.name r.qual (defArgs r.st) (defBody r.st) (defScope r.st) dvs kws (G.fns f) fd →
    FnOk Pr w G.K G.mg base (L2.CX Pr w) (2 * n + 2) (G.fns f) fd r.ps (spC G (callN (rows.map (·.df)) n) f)
  | 0, f, r, hr, dvs, kws, fd, F => ⟨fun vs H Q E ⟨_, _, _, _, _, h⟩ => (show False from h).elim, fun A outer s H args us vs Q E _ _ _ _ ⟨_, _, _, _, _, h⟩ => (show False from h).elim⟩
  | n + 1, f, r, hr, dvs, kws, fd, F => by
    have hc := R.ck f r hr
    have hc0 := hc
    unfold chkRow at hc
    simp only [Bool.and_eq_true, decide_eq_true_eq] at hc
    obtain ⟨h1, h2, h3, h4, h4b, h5⟩ := hc
    have S := fnScB_ok h1
    have hP : (rows.map (·.df))[f]? = some r.df := by rw [List.getElem?_map, hr] <;> rfl
    refine fun_ok F S (fun vs H Q E hsp => ?_) (fun cdv A outer s H vs Q E hcdv hroom hsp => ?_)
    · obtain ⟨W, ds, _, _, rl, h⟩ := hsp
      obtain ⟨m, df, _, e, hl, _⟩ := callN_at h
      rw [hP] at e
      cases e
      rw [← rl.length, hl, Row.len h3]
    · obtain ⟨W, ds, rfl, sr, rl, h⟩ := hsp
      obtain ⟨m, df, e0, e, hl, h⟩ := callN_at h
      cases e0
      rw [hP] at e
      cases e
      unfold runD at h
      rw [if_pos hl] at h
      have g : Gs G (callN (rows.map (·.df)) n) { T with N := r.N, lam := r.lam } (defScope r.st) (cxOf (L2.CX Pr w) Pr w G.K G.mg base r.N r.qual (defScope r.st) (G.fns f) cdv A outer s W.H E) (fun cls d _ H => E cls d H) := by
        refine ⟨⟨rfl, rfl, rfl, S.nd, rfl, ?_, rfl, rfl, takes_of rfl rfl rfl rfl, fun j hj => ?_, ⟨R.gl.fx, R.gl.bn, R.gl.cx, R.gl.mt, R.gl.cl, R.gl.na, R.gl.mkr, R.gl.ne, R.gl.xt⟩, fun hlam => ?_, fun c fn hc hfn => ?_⟩, S.kind, passes_of rfl, rfl, rfl⟩
        · have := hroom.un
          show (A.deeper _).units + 65 < cLine
          omega
        · have hj' : j < rows.length := by rw [← R.nf]; exact hj
          have ej := List.getElem?_eq_getElem hj'
          obtain ⟨dvs', kws', fd', F', d'⟩ := R.fn j rows[j] ej
          have sj : (Tb.s { T with N := r.N, lam := r.lam } j) = rows[j].sig := R.s ej
          rw [sj]
          exact ⟨fd', _, 2 * n + 2, all_fns R hT n j rows[j] ej dvs' kws' fd' F', hroom, F'.kp, row_bnd F' d' (R.ck j _ ej)⟩
        · have hlam' : r.lam = true := hlam
          obtain ⟨q1, q2, q3⟩ := R.lam f r hr hlam'
          obtain ⟨oc, od, osl, lk, ec, hcd⟩ := hcdv
          obtain ⟨c0, rfl⟩ := He.codeIn_ref hcd
          rw [q1] at lk
          have e1 := He.codeOf_eq lk ec
          refine ⟨⟨c0, (He.cT G.K r.at_).2, rfl, ?_, q2, q3⟩, hroom.depth⟩
          have z := hT r (List.mem_of_getElem? hr) hlam'
          rw [show (He.cT G.K r.at_).1 = c0 from e1] at z
          exact z
        · obtain ⟨xr, xfd, e1, e2, xF, xc, xk, xb, xm, xcl, xmg⟩ := R.xi c fn hc hfn
          obtain ⟨o1, o2, o3⟩ := xinit_ok (Pr := Pr) (w := w) (base := base) xF xc xk xb xm
          have xm' := xm
          unfold xmB fnd at xm'
          simp only [Bool.and_eq_true, decide_eq_true_eq] at xm'
          subst e2
          exact ⟨by rw [xcl]; exact xk, by rw [xcl]; exact xmg, o3, _, xfd, 1, by rw [xcl]; exact xm'.1, xm'.2.1, by rw [xcl]; exact o1, hroom.mono (by omega), o2⟩
      refine ⟨RSs G (fun cls d _ H => E cls d H) (callN (rows.map (·.df)) n) r.df.body, chkSs_ok (cks_ok (ck_ok _ k) k g) h5, W, _, rfl, start_rel rl r.df.np r.df.ns h2 hl, sr, ?_⟩
      cases er : evSs (callN (rows.map (·.df)) n) r.df.body (ds.map some ++ List.replicate (r.df.ns - r.df.np) none) W.st with
      | none => rw [er] at h; exact h.elim
      | some o =>
        rw [er] at h
        cases o with
        | nx φ st => exact fun W1 σ a x s1 _ => (show Lf G W .non st Q from h) W1 .non a x s1 .non
        | ret d st => exact fun W1 v a x s1 r1 => (show Lf G W d st Q from h) W1 v a x s1 r1
        | exc x φ st => exact fun W1 σ cls d a e s1 f1 xr => (show ∀ W' cls d, W'.st = st → Ext W W' → SRel G W' → XRel G W' x cls d → E cls d W'.H from h) W1 cls d a e s1 xr
        | brk φ st => exact (show False from h).elim
        | cnt φ st => exact (show False from h).elim
end
end OM
namespace OM
open PySem PySem.Spec L2
open He (ba)
mutual
def datB (K : PySem.W.Frag) : D → Value → Bool
  | .non, .none => true
  | .bl a, .bool b => a == b
  | .int i, .int j _ => decide (i = j)
  | .str x, .str y _ => decide (x = y) && (PySem.PyData.strOk x && decide (x.length ≤ 1000000))
  | .tup xs, .ref a => match K.lookup a with
    | some ⟨.type c, _, .seq its _, _⟩ => decide (c = "tuple") && (decide (its.size ≤ sizeLine) && datL K xs its.toList)
    | _ => false
  | _, _ => false
def datL (K : PySem.W.Frag) : List D → List Value → Bool
  | [], [] => true
  | x :: xs, u :: us => datB K x u && datL K xs us
  | _, _ => false
end
section
variable {G : GX}
mutual
theorem datB_ok : ∀ {d : D} {u : Value}, datB G.K d u = true → ∃ v, RelV v u ∧ ∀ W, Rel G W d v
  | .non, u, h => by cases u <;> first | exact ⟨.non, rfl, fun _ => .non⟩ | (simp [datB] at h)
  | .bl a, u, h => by cases u <;> first | (simp [datB] at h; subst h; exact ⟨.bl a, rfl, fun _ => .bl a⟩) | (simp [datB] at h)
  | .int i, u, h => by cases u <;> first | (simp [datB] at h; subst h; exact ⟨.int i, ⟨_, rfl⟩, fun _ => .int i⟩) | (simp [datB] at h)
  | .str x, u, h => by cases u <;> first | (simp [datB] at h; obtain ⟨rfl, h1, h2⟩ := h; exact ⟨.str x, ⟨_, rfl⟩, fun _ => .str x ⟨h1, Nat.le_trans h2 (by decide)⟩⟩) | (simp [datB] at h)
  | .tup xs, u, h => by
    cases u with
    | ref a =>
      simp only [datB] at h
      cases q : G.K.lookup a with
      | none => rw [q] at h; cases h
      | some o =>
        obtain ⟨oc, od, dt, osl⟩ := o
        rw [q] at h
        cases oc with
        | type c =>
          cases dt with
          | seq its n =>
            have h' : (decide (c = "tuple") && (decide (its.size ≤ sizeLine) && datL G.K xs its.toList)) = true := h
            rw [Bool.and_eq_true, Bool.and_eq_true, decide_eq_true_eq, decide_eq_true_eq] at h'
            obtain ⟨rfl, h2, h3⟩ := h'
            obtain ⟨vs, h4, h5⟩ := datL_ok h3
            exact ⟨.ref a, rfl, fun W => .tup (.inr ⟨_, its, n, q, rfl, rfl, h2, h4⟩) (h5 W)⟩
          | _ => cases h
        | _ => cases dt <;> cases h
    | _ => simp [datB] at h
  | .lst _, _, h => by simp [datB] at h
  | .dct .., _, h => by simp [datB] at h
  | .obj .., _, h => by simp [datB] at h
  | .ref _, _, h => by simp [datB] at h
  | .fn _, _, h => by simp [datB] at h
  | .scr _, _, h => by simp [datB] at h
theorem datL_ok : ∀ {ds : List D} {us : List Value}, datL G.K ds us = true → ∃ vs, Vals vs us ∧ ∀ W, RelL G W ds vs
  | [], [], _ => ⟨[], .nil, fun _ => .nil⟩
  | [], _ :: _, h => by simp [datL] at h
  | _ :: _, [], h => by simp [datL] at h
  | d :: ds, u :: us, h => by
    have h' : datB G.K d u = true ∧ datL G.K ds us = true := by simpa [datL] using h
    obtain ⟨v, a, b⟩ := datB_ok h'.1
    obtain ⟨vs, c, e⟩ := datL_ok h'.2
    exact ⟨v :: vs, .cons a c, fun W => .cons (b W) (e W)⟩
end
end
def kwAt (f : Str × Option Str) (x : Str) (K : PySem.W.Frag) : Addr := match K.lookup (He.fAd K f) with
  | some ⟨_, _, .func fd, _⟩ => (match fd.kwdefaults with
    | .ref Dk => (match PySem.W.nsIn K Dk x with
      | some (some (.ref a)) => a
      | _ => 0)
    | _ => 0)
  | _ => 0
def dvOf (p : PySem.W.Frag → Addr) : D → He.Dv
  | .non => .non
  | .bl b => .bl b
  | .int i => .int i
  | .str x => .str x
  | _ => .adr p
def toV (K : PySem.W.Frag) : He.Dv → Value
  | .non => .none
  | .bl b => .bool b
  | .int i => .int i 0
  | .str x => .str x 0
  | .adr p => .ref (p K)
  | _ => .none
theorem dv_ok {G : GX} {p : PySem.W.Frag → Addr} {d : D} (h : datB G.K d (toV G.K (dvOf p d)) = true) : ∀ W, Rel G W d ((dvOf p d).v G.K) := by
  obtain ⟨v, a, b⟩ := datB_ok h
  intro W
  have q := b W
  cases d with
  | tup xs =>
    cases v with
    | ref a0 =>
      have e : Value.ref (p G.K) = Value.ref a0 := a
      cases e
      exact q
    | _ => cases q
  | non => exact .non
  | bl b0 => exact .bl b0
  | int i => exact .int i
  | str x =>
    cases q with
    | str _ h => exact .str x h
  | _ => simp [datB] at h
def Row.dfn (r : Row) : He.DefD := ⟨r.at_, r.name, r.qual, defArgs r.st, defBody r.st, defScope r.st, (r.dp.map (dvOf (He.dflAt r.at_ 0))).toList, (match (generalizing := false) r.kw with
  | some (k, some d) => [(k, dvOf (kwAt r.at_ k) d)]
  | _ => [])⟩
def Row.dfB (K : PySem.W.Frag) (r : Row) : Bool := (match (generalizing := false) r.dp with
  | some d => datB K d (toV K (dvOf (He.dflAt r.at_ 0) d))
  | none => true) && (match (generalizing := false) r.kw with
  | some (k, some d) => datB K d (toV K (dvOf (kwAt r.at_ k) d))
  | _ => true)
/-- the classes: their fields' names (no attributes of the class), whether they are made -/
structure Cn where
  name : Str
  fields : List Str
  make : Bool
def Row.fa (r : Row) : He.Fa := match r.cn with
  | none => .glo r.name
  | some c => .meth c r.name
def Cn.fas (c : Cn) : List He.Fa := .glo c.name :: .cls c.name :: ((if c.make then [.mkr c.name] else []) ++ c.fields.map (.noat c.name))
def fas (rows : List Row) (bn : List Str) (cls : List Cn) : List He.Fa := rows.map Row.fa ++ (bn.map He.Fa.free ++ cls.flatMap Cn.fas)
/-- the defs: the text's, and the __init__s of exceptions -/
def dfs (rows : List Row) (xr : List XRow) : List He.DefD := rows.map Row.dfn ++ (xr.filter (·.ini)).map XRow.dfn
def Row.neB (K : PySem.W.Frag) (r : Row) : Bool := match (generalizing := false) r.cn with
  | some c => if r.name = ("__eq__" : Str) then ((match PySem.W.findIn K (.ref (He.ga K c)) "__ne__" with
    | some (some (.builtin b)) => b == "object.__ne__"
    | _ => false) && insB K (He.ga K c)) else true
  | none => true
/-- the tables that may grow -/
def tbs (K : PySem.W.Frag) (rows : List Row) : List (Addr × Str) := (rows.filter (·.lam)).map fun r => ((He.cT K r.at_).2, (r.qual ++ ".<locals>.") ++ "<lambda>")
def tfs (rows : List Row) : List He.Defn := (rows.filter (·.lam)).map Row.at_
def exB (rows : List Row) (cs : List (Str × D)) (xr : List XRow) (K : PySem.W.Frag) : Bool := xr.all (XRow.okB K) && (((rows.all (Row.dfB K)) && (rows.all (Row.neB K) && (tbs K rows).all fun p => (tbs K rows).all fun q => p.1 != q.1 || decide (p.2 = q.2))) && cs.all fun p => match PySem.W.nsIn K mainGlobals p.1 with
  | some (some u) => datB K p.2 u
  | _ => false)
def obsM (fa : List He.Fa) (fn : List He.DefD) (ex : PySem.W.Frag → Bool) (K : PySem.W.Frag) : He.AlD := ((fa.all fun f => f.ok K) && ((fn.all fun d => d.ok K) && ex K), fn.map fun d => He.fnW K d.at_)
def SaysM (fa : List He.Fa) (fn : List He.DefD) (ex : PySem.W.Frag → Bool) (K : PySem.W.Frag) : Prop := obsM fa fn ex K = He.valD fn
/-- the tables of the defs tf: empty, not in K -/
structure TabOk (tf : List He.Defn) (h : Heap) (K : PySem.W.Frag) : Prop where
  hd : ∀ p ∈ tf, PySem.W.codeHdIn K (He.cT K p).1 (He.cT K p).2 = true
  out : ∀ p ∈ tf, K.lookup (He.cT K p).2 = none
  empty : ∀ p ∈ tf, h.get? (He.cT K p).2 = some { cls := .none, data := .fields #[] }
def obsMG (n : Nat) (fa : List He.Fa) (fn : List He.DefD) (ex : PySem.W.Frag → Bool) (tf : List He.Defn) (g : Addr → Option Obj) : He.AlD :=
  let K := He.frT g (He.asD g n ++ [cStatics])
  let q := obsM fa fn ex K
  (q.1 && He.tabsB g tf K, q.2)
theorem saysM_of {n : Nat} {fa : List He.Fa} {fn : List He.DefD} {ex : PySem.W.Frag → Bool} {tf : List He.Defn} {h : Heap} (e : obsMG n fa fn ex tf h.get? = He.valD fn) : SaysM fa fn ex (He.frT h.get? (He.asD h.get? n ++ [cStatics])) ∧ TabOk tf h (He.frT h.get? (He.asD h.get? n ++ [cStatics])) := by
  have e1 : ((obsM fa fn ex (He.frT h.get? (He.asD h.get? n ++ [cStatics]))).1 && He.tabsB h.get? tf (He.frT h.get? (He.asD h.get? n ++ [cStatics]))) = true := congrArg (fun z : He.AlD => z.1) e
  have e2 : (obsM fa fn ex (He.frT h.get? (He.asD h.get? n ++ [cStatics]))).2 = fn.map He.DefD.val := congrArg (fun z : He.AlD => z.2) e
  rw [Bool.and_eq_true] at e1
  have key : ∀ p ∈ tf, PySem.W.codeHdIn (He.frT h.get? (He.asD h.get? n ++ [cStatics])) (He.cT (He.frT h.get? (He.asD h.get? n ++ [cStatics])) p).1 (He.cT (He.frT h.get? (He.asD h.get? n ++ [cStatics])) p).2 = true ∧ ∃ o, h.get? (He.cT (He.frT h.get? (He.asD h.get? n ++ [cStatics])) p).2 = some o ∧ He.emptyTab o = true := fun p hp => by
    obtain ⟨h3, h4⟩ := ba (List.all_eq_true.mp e1.2 p hp)
    refine ⟨h3, ?_⟩
    cases q : h.get? (He.cT (He.frT h.get? (He.asD h.get? n ++ [cStatics])) p).2 with
    | none =>
      rw [q] at h4
      cases h4
    | some o =>
      rw [q] at h4
      exact ⟨o, rfl, h4⟩
  refine ⟨Prod.ext e1.1 e2, fun p hp => (key p hp).1, fun p hp => ?_, fun p hp => ?_⟩
  · obtain ⟨_, o, q, z⟩ := key p hp
    exact He.frT_none q z
  · obtain ⟨_, o, q, z⟩ := key p hp
    rw [q, He.emptyTab_eq z]
def hookM (n : Nat) (fa : List He.Fa) (fn : List He.DefD) (ex : PySem.W.Frag → Bool) (tf : List He.Defn) : PySem.W.Hook where
  α := He.AlD
  obs := fun s => obsMG n fa fn ex tf s.heap.get?
  val := fun _ => He.valD fn
  says := fun _ h => ∃ K : PySem.W.Frag, K.In h ∧ SaysM fa fn ex K ∧ TabOk tf h K
  of := fun _ _ e => ⟨_, He.frT_in, saysM_of e⟩
  keeps := fun _ _ _ ⟨K, hK, c, d⟩ k => ⟨K, PySem.W.Frag.In.keeps hK k, c, d.hd, d.out, fun p hp => k _ _ (d.empty p hp)⟩
theorem obsMG_eq {n : Nat} {fa : List He.Fa} {fn : List He.DefD} {ex : PySem.W.Frag → Bool} {tf : List He.Defn} {g : Addr → Option Obj} {s : Shared} (h : ∀ a, g a = s.heap.get? a) : obsMG n fa fn ex tf g = (hookM n fa fn ex tf).obs s := by
  have e : g = s.heap.get? := funext h
  rw [e] <;> rfl
section
variable {fa : List He.Fa} {fn : List He.DefD} {ex : PySem.W.Frag → Bool} {K : PySem.W.Frag}
theorem SaysM.parts (c : SaysM fa fn ex K) : (∀ f ∈ fa, f.ok K = true) ∧ (∀ d ∈ fn, d.ok K = true) ∧ ex K = true := by
  have c1 : ((fa.all fun f => f.ok K) && ((fn.all fun d => d.ok K) && ex K)) = true := congrArg (fun z : He.AlD => z.1) c
  rw [Bool.and_eq_true, Bool.and_eq_true, List.all_eq_true, List.all_eq_true] at c1
  exact c1
theorem SaysM.def_ (c : SaysM fa fn ex K) (i : Nat) {d : He.DefD} (h : fn[i]? = some d) : ∃ fd, FunD K d.name d.qual d.params d.body d.scope (d.dvs K) (d.kws K) (He.fAd K d.at_) fd := by
  have e : fn.map (fun d => He.fnW K d.at_) = fn.map He.DefD.val := congrArg (fun z : He.AlD => z.2) c
  have e2 : (fn.map fun d => He.fnW K d.at_)[i]? = (fn.map He.DefD.val)[i]? := by rw [e]
  rw [List.getElem?_map, List.getElem?_map, h] at e2
  exact He.DefD.funD (Option.some.inj e2) (c.parts.2.1 d (List.mem_of_getElem? h))
end
def fxs (rows : List Row) : List (Str × Nat) := (rows.zipIdx.filterMap fun p => match p.1.cn with
  | none => some (p.1.name, p.2)
  | some _ => none)
def mts (rows : List Row) : List ((Str × Str) × Nat) := (rows.zipIdx.filterMap fun p => match p.1.cn with
  | none => none
  | some c => some ((c, p.1.name), p.2))
def mks (rows : List Row) (cls : List Cn) : List (Str × Nat) := cls.filterMap fun c => if c.make then ((mts rows).lookup (c.name, ("__init__" : Str))).map fun f => (c.name, f) else none
def xsOf (xr : List XRow) : List (Str × List Str) := xr.map fun r => (r.cn, r.fn)
def xrOk (xr : List XRow) (r : XRow) : Bool := r.ini && (chkX0 r && decide ((xsOf xr).lookup r.cn = some r.fn))
def tb (rows : List Row) (bn : List Str) (cs : List (Str × D)) (cls : List Cn) (xr : List XRow) : Tb := ⟨rows.length, fxs rows, rows.map Row.sig, bn, cs, cls.map (·.name), mts rows, cls.flatMap fun c => c.fields.map fun f => (c.name, f), mks rows cls, [], false, xsOf xr, xr.flatMap fun r => r.as_.map fun p => ((r.cn, p.1), p.2), (xr.filter (xrOk xr)).map (·.cn)⟩
def gOf (K : PySem.W.Frag) (mg : Str → Option Value) (rows : List Row) : GX := ⟨K, mg, fun f => match rows[f]? with
  | some r => He.fAd K r.at_
  | none => 0, fun c => He.ga K c, tbs K rows⟩
theorem lookup_mem' {α β : Type} [BEq α] [LawfulBEq α] {a : α} {b : β} : ∀ {l : List (α × β)}, l.lookup a = some b → (a, b) ∈ l
  | [], h => by cases h
  | (x, y) :: l, h => by
    rw [List.lookup_cons] at h
    cases e : (a == x) with
    | true =>
      rw [e] at h
      have e2 : y = b := Option.some.inj h
      rw [beq_iff_eq.mp e, e2]
      exact List.mem_cons_self ..
    | false =>
      rw [e] at h
      exact List.mem_cons_of_mem _ (lookup_mem' h)
theorem zipIdx_at {α : Type} {l : List α} {a : α} {i : Nat} (h : (a, i) ∈ l.zipIdx) : l[i]? = some a := by
  have := List.mem_zipIdx_iff_getElem?.mp h
  simpa using this
theorem rows_ok {K : PySem.W.Frag} {h : Heap} {mg : Str → Option Value} {rows : List Row} {bn : List Str} {cs : List (Str × D)} {cls : List Cn} {xrs : List XRow} {k : Nat} (X : K.In h) (Gm : h.Ns mainGlobals mg) (c : SaysM (fas rows bn cls) (dfs rows xrs) (exB rows cs xrs) K) (hc : rows.all (chkRow (tb rows bn cs cls xrs) k) = true) :
    RowsOk (gOf K mg rows) (tb rows bn cs cls xrs) rows k := by
  obtain ⟨c1, c2, c3⟩ := c.parts
  unfold exB at c3
  rw [Bool.and_eq_true] at c3
  obtain ⟨cx, c3⟩ := c3
  have cx : ∀ r ∈ xrs, PySem.W.nsIn K mainGlobals r.cn = some (some (.ref (He.ga K r.cn))) ∧ XcK K (He.ga K r.cn) r.fn ∧ (∀ p ∈ r.as_, xaB K (He.ga K r.cn) p.1 p.2 = true) ∧ (r.ini = true → xmB K r = true) := fun r hr => by
    have q := List.all_eq_true.mp cx r hr
    unfold XRow.okB at q
    simp only [Bool.and_eq_true, decide_eq_true_eq, List.all_eq_true] at q
    obtain ⟨q1, q2, q3, q4⟩ := q
    refine ⟨q1, xkB_ok q2, q3, fun hi => ?_⟩
    rw [hi] at q4
    simpa using q4
  rw [Bool.and_eq_true, Bool.and_eq_true, Bool.and_eq_true, List.all_eq_true, List.all_eq_true, List.all_eq_true, List.all_eq_true] at c3
  have rowFa : ∀ (f : Nat) (r : Row), rows[f]? = some r → r.fa.ok K = true := fun f r hr => c1 _ (List.mem_append_left _ (List.mem_map.mpr ⟨r, List.mem_of_getElem? hr, rfl⟩))
  have clsFa : ∀ (cn : Cn), cn ∈ cls → ∀ f ∈ cn.fas, f.ok K = true := fun cn hcn f hf => c1 _ (List.mem_append_right _ (List.mem_append_right _ (List.mem_flatMap.mpr ⟨cn, hcn, hf⟩)))
  have fnsAt : ∀ (f : Nat) (r : Row), rows[f]? = some r → (gOf K mg rows).fns f = He.fAd K r.at_ := fun f r hr => by
    show (match rows[f]? with
      | some r => He.fAd K r.at_
      | none => 0) = _
    rw [hr]
  have meth : ∀ (cn m : Str) (f : Nat), (mts rows).lookup (cn, m) = some f → f < rows.length ∧ Meth K (He.ga K cn) m ((gOf K mg rows).fns f) := fun cn m f e => by
    have hm := lookup_mem' e
    obtain ⟨⟨r, i⟩, h1, h2⟩ := List.mem_filterMap.mp hm
    have hr := zipIdx_at h1
    cases er : r.cn with
    | none => simp only [er] at h2; cases h2
    | some c0 =>
      simp only [er] at h2
      cases h2
      refine ⟨(List.getElem?_eq_some_iff.mp hr).1, ?_⟩
      have q := rowFa _ _ hr
      rw [fnsAt _ _ hr]
      unfold Row.fa at q
      rw [er] at q
      have q' := He.meth_ok q
      have e3 : He.fAd K r.at_ = He.ma K (He.ga K cn) r.name := by unfold Row.at_; rw [er]; rfl
      rw [e3]
      exact q'
  have neR : ∀ (cn : Str) (f : Nat), (mts rows).lookup (cn, ("__eq__" : Str)) = some f → PySem.W.findIn K (.ref (He.ga K cn)) "__ne__" = some (some (.builtin "object.__ne__")) ∧ InsF K (He.ga K cn) := fun cn f e => by
    have hm := lookup_mem' e
    obtain ⟨⟨r, i⟩, h1, h2⟩ := List.mem_filterMap.mp hm
    have hr := zipIdx_at h1
    cases er : r.cn with
    | none => simp only [er] at h2; cases h2
    | some c0 =>
      simp only [er] at h2
      have h3 : c0 = cn ∧ r.name = ("__eq__" : Str) := by
        have := Option.some.inj h2
        exact ⟨congrArg (fun z => z.1.1) this, congrArg (fun z => z.1.2) this⟩
      have q := c3.1.2.1 r (List.mem_of_getElem? hr)
      unfold Row.neB at q
      rw [er] at q
      dsimp only at q
      rw [if_pos h3.2, h3.1, Bool.and_eq_true] at q
      refine ⟨?_, insB_ok q.2⟩
      have q1 := q.1
      split at q1
      · rename_i b hb
        rw [hb, beq_iff_eq.mp q1]
      · cases q1
  have lamR : ∀ (f : Nat) (r : Row), rows[f]? = some r → r.lam = true → (gOf K mg rows).fns f = He.fAd (gOf K mg rows).K r.at_ ∧ ((He.cT (gOf K mg rows).K r.at_).2, (r.qual ++ ".<locals>.") ++ "<lambda>") ∈ (gOf K mg rows).tb ∧ ∀ p ∈ (gOf K mg rows).tb, p.1 = (He.cT (gOf K mg rows).K r.at_).2 → p.2 = (r.qual ++ ".<locals>.") ++ "<lambda>" := fun f r hr hl => by
    have hm : ((He.cT K r.at_).2, (r.qual ++ ".<locals>.") ++ "<lambda>") ∈ tbs K rows := List.mem_map.mpr ⟨r, List.mem_filter.mpr ⟨List.mem_of_getElem? hr, hl⟩, rfl⟩
    refine ⟨fnsAt f r hr, hm, fun p hp e => ?_⟩
    have q := List.all_eq_true.mp (c3.1.2.2 p hp) _ hm
    rw [Bool.or_eq_true, decide_eq_true_eq] at q
    rcases q with q | q
    · have e' : p.1 = (He.cT K r.at_).2 := e
      rw [e'] at q
      simp at q
    · exact q
  refine ⟨lamR, rfl, rfl, ⟨fun x f e => ?_, fun x hx => ?_, fun x d e => ?_, meth, fun cn hcn => ?_, fun cn f hf => ?_, fun cn f e => ?_, fun cn f e => neR cn f e, ⟨fun c fn e => ?_, fun c y b e => ?_⟩⟩, fun f r hr => ?_, fun f r hr => List.all_eq_true.mp hc r (List.mem_of_getElem? hr), fun c fn h1 h2 => ?_⟩
  · have hm := lookup_mem' e
    obtain ⟨⟨r, i⟩, h1, h2⟩ := List.mem_filterMap.mp hm
    have hr := zipIdx_at h1
    cases er : r.cn with
    | some c0 => simp only [er] at h2; cases h2
    | none =>
      simp only [er] at h2
      cases h2
      refine ⟨(List.getElem?_eq_some_iff.mp hr).1, ?_⟩
      have q := rowFa _ _ hr
      unfold Row.fa at q
      rw [er] at q
      rw [fnsAt _ _ hr]
      have e3 : He.fAd K r.at_ = He.ga K r.name := by unfold Row.at_; rw [er]; rfl
      rw [e3]
      exact He.glo_ok X Gm q
  · exact He.free_ok X Gm (c1 _ (List.mem_append_right _ (List.mem_append_left _ (List.mem_map.mpr ⟨x, hx, rfl⟩))))
  · have hm : (x, d) ∈ cs := lookup_mem' e
    have q := c3.2 _ hm
    cases en : PySem.W.nsIn K mainGlobals x with
    | none => simp only [en] at q; cases q
    | some o =>
      cases o with
      | none => simp only [en] at q; cases q
      | some u =>
        simp only [en] at q
        obtain ⟨v, a, b⟩ := datB_ok (G := gOf K mg rows) q
        exact ⟨u, v, PySem.W.mg_of X Gm en, a, b⟩
  · obtain ⟨c0, h1, rfl⟩ := List.mem_map.mp (show cn ∈ cls.map (·.name) from hcn)
    exact ⟨He.cls_ok (clsFa c0 h1 _ (by unfold Cn.fas; simp)), He.glo_ok X Gm (clsFa c0 h1 _ (by unfold Cn.fas; simp))⟩
  · obtain ⟨c0, h1, h2⟩ := List.mem_flatMap.mp (show (cn, f) ∈ cls.flatMap _ from hf)
    obtain ⟨f0, h3, h4⟩ := List.mem_map.mp h2
    cases h4
    exact He.noat_ok (clsFa c0 h1 (.noat c0.name f) (by unfold Cn.fas; simp [h3]))
  · obtain ⟨c0, h1, h2⟩ := List.mem_filterMap.mp (lookup_mem' (show (mks rows cls).lookup cn = some f from e))
    by_cases hm : c0.make = true
    · rw [if_pos hm] at h2
      cases e2 : (mts rows).lookup (c0.name, ("__init__" : Str)) with
      | none => rw [e2] at h2; cases h2
      | some f0 =>
        rw [e2] at h2
        cases h2
        obtain ⟨a, b⟩ := meth _ _ _ e2
        refine ⟨a, ?_⟩
        have q := He.mkr_ok (clsFa c0 h1 (.mkr c0.name) (by unfold Cn.fas; simp [hm]))
        have e3 : (gOf K mg rows).fns f = He.ma K (He.ga K c0.name) "__init__" := by
          have z1 := b.at_
          have z2 := q.init
          rw [z1] at z2
          exact Value.ref.inj (Option.some.inj (Option.some.inj z2))
        rw [e3]
        exact q
    · rw [if_neg hm] at h2; cases h2
  · obtain ⟨r, hr, z⟩ := List.mem_map.mp (lookup_mem' (show (xsOf xrs).lookup c = some fn from e))
    cases z
    exact (cx r hr).2.1
  · obtain ⟨r, hr, z⟩ := List.mem_flatMap.mp (lookup_mem' (show (xrs.flatMap fun r => r.as_.map fun p => ((r.cn, p.1), p.2)).lookup (c, y) = some b from e))
    obtain ⟨p, hp, z⟩ := List.mem_map.mp z
    cases z
    exact xaB_ok (G := gOf K mg rows) X Gm ((cx r hr).2.2.1 p hp)
  · obtain ⟨fd, F⟩ := c.def_ f (d := r.dfn) (by unfold dfs; rw [List.getElem?_append_left (by rw [List.length_map]; exact (List.getElem?_eq_some_iff.mp hr).1), List.getElem?_map, hr] <;> rfl)
    refine ⟨_, _, fd, by rw [fnsAt _ _ hr]; exact F, ?_⟩
    have q := c3.1.1 r (List.mem_of_getElem? hr)
    unfold Row.dfB at q
    rw [Bool.and_eq_true] at q
    obtain ⟨q1, q2⟩ := q
    constructor
    · cases e : r.dp with
      | none => show (r.dfn.dfl.map _) = []; unfold Row.dfn; rw [e]; rfl
      | some d =>
        rw [e] at q1
        refine ⟨(dvOf (He.dflAt r.at_ 0) d).v K, by show (r.dfn.dfl.map _) = _; unfold Row.dfn; rw [e]; rfl, dv_ok (G := gOf K mg rows) q1⟩
    · cases e : r.kw with
      | none => trivial
      | some kd =>
        obtain ⟨k0, o⟩ := kd
        cases o with
        | none => trivial
        | some d =>
          rw [e] at q2
          exact ⟨(dvOf (kwAt r.at_ k0) d).v K, by show (r.dfn.kwd.map _) = _; unfold Row.dfn; rw [e]; rfl, dv_ok (G := gOf K mg rows) q2⟩
  · obtain ⟨r0, hr0, z0⟩ := List.mem_map.mp (show c ∈ (xrs.filter (xrOk xrs)).map (·.cn) from h1)
    obtain ⟨m0, k0⟩ := List.mem_filter.mp hr0
    unfold xrOk at k0
    simp only [Bool.and_eq_true, decide_eq_true_eq] at k0
    obtain ⟨k1, k2, k3⟩ := k0
    subst z0
    have e2 : r0.fn = fn := by
      have h2' : (xsOf xrs).lookup r0.cn = some fn := h2
      rw [k3] at h2'
      exact Option.some.inj h2'
    have md : r0.dfn ∈ dfs rows xrs := List.mem_append_right _ (List.mem_map.mpr ⟨r0, List.mem_filter.mpr ⟨m0, k1⟩, rfl⟩)
    obtain ⟨i, hi⟩ := List.getElem?_of_mem md
    obtain ⟨fd, F⟩ := c.def_ i hi
    have q := cx r0 m0
    have xm := q.2.2.2 k1
    have xm' := xm
    unfold xmB fnd at xm'
    simp only [Bool.and_eq_true, decide_eq_true_eq] at xm'
    exact ⟨r0, fd, rfl, e2, F, k2, q.2.1, PySem.W.mg_of X Gm xm'.2.2.1, xm, rfl, PySem.W.mg_of X Gm q.1⟩
theorem script_sp {G : GX} {P : Defs} {n f : Nat} {H : Hp} {a : Addr} {ns : List Int} (hT : ∀ p ∈ G.tb, H p.1 = some (.tbl #[])) (h : SqL G.K H a (ns.map V.int)) (hl : ∃ st', callN P n f [.scr ns] st0 = ok (.bl true) st') : spC G (callN P n) f [.ref a] H (fun v _ => v = .bl true) fun _ _ _ => False := by
  obtain ⟨st', e⟩ := hl
  refine ⟨⟨fun _ => 0, st0, H, fun _ => False⟩, [.scr ns], rfl, ?_, .cons (.scr ?_) .nil, ?_⟩
  · exact ⟨fun n o e => (by cases e), fun n m o o' e => (by cases e), fun n o e => (by cases e), fun p z => (show False from z).elim, fun n o e => (by cases e), fun p hp => LamX.TabS.nil (hT p hp)⟩
  · rcases h with h | h
    · exact .inl ⟨h, fun t => by
        rcases t with ⟨n, o, e, _⟩ | z
        · cases e
        · exact z⟩
    · exact .inr h
  · rw [e]
    intro W' v _ _ _ r
    cases r
    rfl
/-- the law's def keeps its promise over every base -/
theorem law_facts {Pr : Program} {w : World} {K : PySem.W.Frag} {h : Heap} {mg : Str → Option Value} {rows : List Row} {bn : List Str} {cs : List (Str × D)} {cls : List Cn} {xrs : List XRow} {k n lf : Nat} {lr : Row} {fa : Addr} {x : Str} (X : K.In h) (Gm : h.Ns mainGlobals mg) (c : SaysM (fas rows bn cls) (dfs rows xrs) (exB rows cs xrs) K) (hc : rows.all (chkRow (tb rows bn cs cls xrs) k) = true)
    (hl : rows[lf]? = some lr) (hcn : lr.cn = none) (hdp : lr.dp = none) (hkw : lr.kw = none) (hfa : mg lr.name = some (.ref fa)) (hps : lr.ps = [x]) {most : Nat} (plain : ∀ ns : List Int, ns.length ≤ most → ∃ st', callN (rows.map (·.df)) n lf [.scr ns] st0 = ok (.bl true) st') :
    ∃ (fd : FuncData) (sp : Sp), (∀ (s : Shared) (v : Value), BindsTo s fd ⟨[v], []⟩ [(x, v)]) ∧
      (∀ (H : Hp) (a : Addr) (ns : List Int), ns.length ≤ most → (∀ p ∈ tbs K rows, H p.1 = some (.tbl #[])) → SqL K H a (ns.map V.int) → sp [.ref a] H (fun v _ => v = .bl true) fun _ _ _ => False) ∧
      ∀ base : Heap, K.In base → base.Ns mainGlobals mg → (∀ p ∈ tfs rows, LamX.TabB base mg (He.cT K p).1 (He.cT K p).2) → FnOk Pr w K mg base (L2.CX Pr w) (2 * n + 2) fa fd [x] sp := by
  have R := rows_ok X Gm c hc
  obtain ⟨dvs, kws, fd, F, d⟩ := R.fn lf lr hl
  have e : fa = (gOf K mg rows).fns lf := by
    have q := (c.parts.1 lr.fa (List.mem_append_left _ (List.mem_map.mpr ⟨lr, List.mem_of_getElem? hl, rfl⟩)))
    unfold Row.fa at q
    rw [hcn] at q
    have q := He.glo_ok X Gm q
    rw [hfa] at q
    cases q
    have e3 : He.fAd K lr.at_ = He.ga K lr.name := by unfold Row.at_; rw [hcn]; rfl
    show _ = (match rows[lf]? with
      | some r => He.fAd K r.at_
      | none => 0)
    rw [hl]
    exact e3.symm
  have hck := R.ck lf lr hl
  unfold chkRow at hck
  simp only [Bool.and_eq_true, decide_eq_true_eq] at hck
  obtain ⟨h1, h2, h3, h4, h5, h6⟩ := hck
  have S := fnScB_ok h1
  have nd : lr.ps.Nodup := S.nd.sublist (List.take_sublist _ _)
  have hdv : dvs = [] := by have := d.1; rw [hdp] at this; exact this
  subst hdv
  rw [hkw] at h4
  refine ⟨fd, spC (gOf K mg rows) (callN (rows.map (·.df)) n) lf, fun s v => ?_, fun H a ns hl2 hO hS => ?_, fun base _ _ hTB => ?_⟩
  · have q := F.bindsA (ps := lr.ps) (fun kV doc pm an cdv ct us hl => bind_plain h4 rfl nd hl) s [v] (by rw [hps] <;> rfl)
    rw [hps] at q
    exact q
  · exact script_sp hO hS (plain ns hl2)
  · have q := all_fns (Pr := Pr) (w := w) (base := base) R (fun r hr hlam => hTB r.at_ (List.mem_map.mpr ⟨r, List.mem_filter.mpr ⟨hr, hlam⟩, rfl⟩)) n lf lr hl [] kws fd F
    rw [hps] at q
    rw [e]
    exact q
end OM
namespace OM
open PySem PySem.Spec PyProof.Rows L2
theorem walk_end {l : PySem.W.OpenLaw} {n k kk lf : Nat} {q : Program} {loose : List Str} {XP : (Str → Option Value) → Heap → Prop} {d : DefRec} {rows : List OM.Row} {bn : List Str} {cs : List (Str × D)} {cls : List Cn} {xrs : List XRow} {lr : OM.Row} {x : Str} {hn0 : Nat}
    (hn : l.most = some n) (hn2 : n ≤ sizeLine) (hdf : d.params.defaults = []) (hr : Room (2 * k + 2) callerA) (hd : d.name = lr.name)
    (hc : rows.all (chkRow (tb rows bn cs cls xrs) kk) = true) (hl : rows[lf]? = some lr) (hcn : lr.cn = none) (hdp : lr.dp = none) (hkw : lr.kw = none) (hps : lr.ps = [x]) (plain : ∀ ns : List Int, ns.length ≤ n → ∃ st', callN (rows.map (·.df)) k lf [.scr ns] st0 = ok (.bl true) st') :
    PySem.W.WalkO q loose XP (hookM hn0 (fas rows bn cls) (dfs rows xrs) (exB rows cs xrs) (tfs rows)).says l.row.toRowW d [] (fun f vs => PySem.call f vs) := by
  refine Att.attach_call hn hdf fun w s₀ s₁ mg mb fa o pm cd doc a vs ns G Y ho hd' hcd hmg hobj hints hlen hg => ?_
  obtain ⟨K, KX, c, tk⟩ := Y
  rw [hd] at hmg
  obtain ⟨fd, sp, hb, hsp, hF⟩ := law_facts (Pr := l.prog) (w := w) (lf := lf) KX G.T.g c hc hl hcn hdp hkw hmg hps plain
  have mem : ∀ {p : Addr × Addr}, p ∈ (tfs rows).map (He.cT K) → ∃ t ∈ tfs rows, He.cT K t = p := fun hp => List.mem_map.mp hp
  refine LamX.law_callTs (cs := (tfs rows).map (He.cT K)) KX G.T.g G.T.b G.T.builtins G.T.nolimit hg (fun p hp => ?_) (fun p hp => ?_) (fun p hp => ?_) G.T.bmain hobj hints (Nat.le_trans hlen hn2) hr (fun base h1 h2 h3 => hF base h1 h2 fun t ht => h3 _ (List.mem_map.mpr ⟨t, ht, rfl⟩)) hb (fun H hH hS => hsp H a ns hlen (fun p hp => ?_) hS) fun H e s' z => ?_
  · obtain ⟨t, ht, rfl⟩ := mem hp
    exact tk.empty t ht
  · obtain ⟨t, ht, rfl⟩ := mem hp
    exact tk.out t ht
  · obtain ⟨t, ht, rfl⟩ := mem hp
    exact PySem.W.codeHd_of_K KX (tk.hd t ht)
  · obtain ⟨r, hr2, rfl⟩ := List.mem_map.mp hp
    exact hH (He.cT K r.at_) (List.mem_map.mpr ⟨r.at_, List.mem_map.mpr ⟨r, hr2, rfl⟩, rfl⟩)
  · obtain ⟨_, _, _, _, _, _, _, _, _, _, _, _, z⟩ := z
    exact z
end OM
namespace OM
open PySem (Str)
@[simp] theorem bind_ok {α β : Type} {a : α} {st : Store} {f : α → Store → Res β} : (ok a st).bind f = f a st := rfl
@[simp] theorem lift_ok {α : Type} {a : α} {st : Store} : lift (some a) st = ok a st := rfl
@[simp] theorem toS_ok {α : Type} {a : α} {st : Store} {φ : Fr} {f : α → Store → SR} : (ok a st).toS φ f = f a st := rfl
@[simp] theorem noX_ok {α : Type} {a : α} {st : Store} : noX (ok a st) = ok a st := rfl
@[simp] theorem seq_nx {φ : Fr} {st : Store} {f : Fr → Store → SR} : SR.seq (some (.nx φ st)) f = f φ st := rfl
@[simp] theorem seq_ret {d : D} {st : Store} {f : Fr → Store → SR} : SR.seq (some (.ret d st)) f = some (.ret d st) := rfl
@[simp] theorem seq_brk {φ : Fr} {st : Store} {f : Fr → Store → SR} : SR.seq (some (.brk φ st)) f = some (.brk φ st) := rfl
@[simp] theorem seq_cnt {φ : Fr} {st : Store} {f : Fr → Store → SR} : SR.seq (some (.cnt φ st)) f = some (.cnt φ st) := rfl
section
variable {st : Store} {i j : Int} {a b : D} {x y : Str} {xs ys : List D}
@[simp] theorem b_add : binop st .add (.int i) (.int j) = some (.int (i + j)) := rfl
@[simp] theorem b_sub : binop st .sub (.int i) (.int j) = some (.int (i - j)) := rfl
@[simp] theorem b_mul : binop st .mul (.int i) (.int j) = if i.natAbs < 2 ^ 64 ∨ j.natAbs < 2 ^ 64 then some (.int (i * j)) else none := rfl
@[simp] theorem b_div : binop st .div (.int i) (.int j) = if 0 < j ∧ j < 1073741824 then some (.int (i / j)) else none := rfl
@[simp] theorem b_mod : binop st .mod (.int i) (.int j) = if 0 < j then some (.int (i % j)) else none := rfl
@[simp] theorem b_pow : binop st .pow (.int i) (.int j) = if 0 ≤ j ∧ j ≤ 1000 ∧ i.natAbs < 2 ^ 64 then some (.int (i ^ j.toNat)) else none := rfl
@[simp] theorem b_adds : binop st .add (.str x) (.str y) = if x.length + y.length ≤ line then some (.str (x ++ y)) else none := rfl
@[simp] theorem b_addt : binop st .add (.tup xs) (.tup ys) = if xs.length + ys.length ≤ line then some (.tup (xs ++ ys)) else none := rfl
@[simp] theorem b_addl : binop st .add (.lst xs) (.lst ys) = if xs.length + ys.length ≤ line then some (.lst (xs ++ ys)) else none := rfl
theorem b_add_of {us ws : List D} (ha : listOf st a = some us) (hb : listOf st b = some ws) : binop st .add a b = if us.length + ws.length ≤ line then some (.lst (us ++ ws)) else none := by
  cases a with
  | lst _ => cases b <;> first | (cases hb; done) | (simp only [binop, ha, hb]) | (cases ha; cases hb; rfl)
  | ref n => cases b <;> first | (cases hb; done) | (simp only [binop, ha, hb])
  | _ => cases ha
@[simp] theorem c_eq : cmpop st .eq a b = (eqD st a b).map .bl := rfl
@[simp] theorem c_ne : cmpop st .ne a b = (eqD st a b).map fun k => .bl (!k) := rfl
@[simp] theorem c_lt : cmpop st .lt (.int i) (.int j) = some (.bl (decide (i < j))) := rfl
@[simp] theorem c_le : cmpop st .le (.int i) (.int j) = some (.bl (decide (i ≤ j))) := rfl
@[simp] theorem c_gt : cmpop st .gt (.int i) (.int j) = some (.bl (decide (j < i))) := rfl
@[simp] theorem c_ge : cmpop st .ge (.int i) (.int j) = some (.bl (decide (j ≤ i))) := rfl
@[simp] theorem c_in : cmpop st .in_ a b = (inD st a b).map .bl := rfl
@[simp] theorem c_notin : cmpop st .notin a b = (inD st a b).map fun k => .bl (!k) := rfl
@[simp] theorem eq_int : eqD st (.int i) (.int j) = some (i == j) := rfl
@[simp] theorem eq_bl {p q : Bool} : eqD st (.bl p) (.bl q) = some (p == q) := rfl
@[simp] theorem eq_str : eqD st (.str x) (.str y) = some (x == y) := rfl
@[simp] theorem t_bl {p : Bool} : truth st (.bl p) = some p := rfl
@[simp] theorem s_lst : seqOf st (.lst xs) = some xs := rfl
@[simp] theorem s_tup : seqOf st (.tup xs) = some xs := rfl
@[simp] theorem l_lst : listOf st (.lst xs) = some xs := rfl
theorem l_ref {n : Nat} (h : st.get n = some (.lst xs)) : listOf st (.ref n) = some xs := by simp only [listOf, h]
@[simp] theorem mk_f : mk false a st = ok a st := rfl
@[simp] theorem mk_t : mk true (.lst xs) st = ok (.ref st.next) (st.new (.lst xs)) := rfl
theorem idx_of (h : seqOf st a = some xs) {k : Nat} {d : D} (hk : i = (k : Int)) (hd : xs[k]? = some d) : idxD st a (.int i) = some d := by
  subst hk
  have hlt := (List.getElem?_eq_some_iff.mp hd).1
  have e : ixN xs.length (k : Int) = some k := by
    unfold ixN
    rw [if_pos (by omega), if_pos (by omega)]
    simp
  unfold idxD
  cases a <;> first | (simp only [h, e, hd]; done) | (cases h)
@[simp] theorem i_lst : idxD st (.lst xs) (.int i) = match ixN xs.length i with | some j => xs[j]? | none => none := rfl
@[simp] theorem i_tup : idxD st (.tup xs) (.int i) = match ixN xs.length i with | some j => xs[j]? | none => none := rfl
@[simp] theorem items_tup : itemsOf (.tup xs) = some xs := rfl
@[simp] theorem items_lst : itemsOf (.lst xs) = some xs := rfl
@[simp] theorem items_scr {ns : List Int} : itemsOf (.scr ns) = some (ns.map .int) := rfl
@[simp] theorem bt_nm {k : Nat} {φ : Fr} : bindT st (.nm k) a φ = some (φ.set k (some a)) := rfl
@[simp] theorem bi_len_lst : biF st .len [.lst xs] = some (.int xs.length) := rfl
@[simp] theorem bi_len_tup : biF st .len [.tup xs] = some (.int xs.length) := rfl
@[simp] theorem bi_len_str : biF st .len [.str x] = some (.int x.length) := rfl
@[simp] theorem bi_tuple_l : biF st .tuple [.lst xs] = some (.tup xs) := rfl
@[simp] theorem bi_tuple_t : biF st .tuple [.tup xs] = some (.tup xs) := rfl
@[simp] theorem bi_list_l : biF st .list [.lst xs] = some (.lst xs) := rfl
@[simp] theorem bi_list_t : biF st .list [.tup xs] = some (.lst xs) := rfl
@[simp] theorem bi_max : biF st .max2 [.int i, .int j] = some (.int (if j > i then j else i)) := rfl
@[simp] theorem bi_min : biF st .min2 [.int i, .int j] = some (.int (if j < i then j else i)) := rfl
@[simp] theorem bi_toint : biF st .int [.int i] = some (.int i) := rfl
@[simp] theorem bi_intb {p : Bool} : biF st .int [.bl p] = some (.int (if p then 1 else 0)) := rfl
end
@[simp] theorem put_next {st : Store} {n : Nat} {o : Option Ob} : (st.put n o).next = st.next := rfl
@[simp] theorem new_get_same {st : Store} {o : Ob} : (st.new o).get st.next = some o := if_pos rfl
theorem new_get_ne {st : Store} {m : Nat} {o : Ob} (h : m ≠ st.next) : (st.new o).get m = st.get m := if_neg h
@[simp] theorem new_next {st : Store} {o : Ob} : (st.new o).next = st.next + 1 := rfl
section
variable {st : Store} {i : Int} {n : Nat} {x d : D} {xs : List D}
@[simp] theorem i_ref : idxD st (.ref n) (.int i) = match st.get n with
  | some (.lst xs) => (match ixN xs.length i with | some j => xs[j]? | none => none)
  | _ => none := by
  simp only [idxD, seqOf]
  cases st.get n with
  | none => rfl
  | some o => cases o <;> rfl
@[simp] theorem len_ref : biF st .len [.ref n] = match st.get n with
  | some (.lst xs) => some (.int xs.length)
  | _ => none := by
  simp only [biF, seqOf]
  cases st.get n with
  | none => rfl
  | some o => cases o <;> rfl
@[simp] theorem put_ref : putD st (.ref n) (.int i) d = match st.get n with
  | some (.lst xs) => (match ixN xs.length i with | some j => some (st.put n (some (.lst (xs.set j d)))) | none => none)
  | _ => none := rfl
@[simp] theorem rcv_l {f : Mt} : rcvOk st f (.ref n) = if f.ofList then (match st.get n with
  | some (.lst _) => true
  | _ => false) else false := by
  unfold rcvOk
  cases f.ofList <;> simp only [isLst, isTxt] <;> rfl
@[simp] theorem rcv_s {y : Str} : rcvOk st .join (.str y) = true := rfl
@[simp] theorem ol_append : Mt.append.ofList = true := rfl
@[simp] theorem ol_extend : Mt.extend.ofList = true := rfl
@[simp] theorem ol_insert : Mt.insert.ofList = true := rfl
@[simp] theorem ol_pop1 : Mt.pop1.ofList = true := rfl
@[simp] theorem m_append : mtF st .append (.ref n) [x] = match st.get n with
    | some (.lst xs) => if xs.length < line then some (.non, st.put n (some (.lst (xs ++ [x])))) else none
    | _ => none := rfl
@[simp] theorem m_pop1 : mtF st .pop1 (.ref n) [.int i] = match st.get n with
    | some (.lst xs) => if 0 ≤ i ∧ i < 2 ^ 62 then match xs[i.toNat]? with
        | some x => some (x, st.put n (some (.lst (xs.eraseIdx i.toNat))))
        | none => none
      else none
    | _ => none := rfl
@[simp] theorem put_get_if {m : Nat} {o : Option Ob} : (st.put n o).get m = if m = n then o else st.get m := rfl
end
/-- a run that ends well -/
def Ends (m : Res D) (k : D → Store → Prop) : Prop := ∃ a st, m = ok a st ∧ k a st
theorem Ends.of {m : Res D} {k : D → Store → Prop} {d : D} {st : Store} (e : m = ok d st) (h : k d st) : Ends m k := ⟨d, st, e, h⟩
theorem Ends.imp {m : Res D} {k k' : D → Store → Prop} (h : Ends m k) (f : ∀ d st, k d st → k' d st) : Ends m k' := let ⟨a, s, e, q⟩ := h; ⟨a, s, e, f a s q⟩
@[simp] theorem ends_ok {d : D} {st : Store} {k : D → Store → Prop} : Ends (ok d st) k ↔ k d st := ⟨fun ⟨_, _, e, q⟩ => by cases e; exact q, fun q => ⟨d, st, rfl, q⟩⟩
theorem while1000 {c : Fr → Store → Res Bool} {body : Fr → Store → SR} {φ : Fr} {st : Store} : whileN c body 1000 φ st = (c φ st).toS φ fun b st => if b then (match body φ st with
      | some (.nx φ' st') => whileN c body 999 φ' st'
      | some (.cnt φ' st') => whileN c body 999 φ' st'
      | some (.brk φ' st') => some (.nx φ' st')
      | r => r) else some (.nx φ st) := rfl
theorem while999 {c : Fr → Store → Res Bool} {body : Fr → Store → SR} {φ : Fr} {st : Store} : whileN c body 999 φ st = (c φ st).toS φ fun b st => if b then (match body φ st with
      | some (.nx φ' st') => whileN c body 998 φ' st'
      | some (.cnt φ' st') => whileN c body 998 φ' st'
      | some (.brk φ' st') => some (.nx φ' st')
      | r => r) else some (.nx φ st) := rfl
/-- one turn of a comprehension -/
noncomputable def tbody (C : Calls) (t : Tg) (c : Option Ex) (e : Ex) (φ : Fr) : D → Store → Res (Option D) := fun d st => match bindT st t d (wipeF φ t.slots) with
        | some φ' => (evC C c φ' st).bind fun b st => if b then (evE C e φ' st).bind fun y st => ok (some y) st else ok none st
        | none => none
/-- .. over a list in the store -/
noncomputable def compS (C : Calls) (m : Bool) (t : Tg) (c : Option Ex) (e : Ex) (φ : Fr) (x : D) (st : Store) : Res D := match itemsS st x with
  | some xs => if xs.length < line then (noX (turns (fun d st => if Same x xs st then tbody C t c e φ d st else none) xs st)).bind fun ys st => if Same x xs st then mk m (.lst ys) st else none else none
  | none => none
theorem comp_eq {C : Calls} {m : Bool} {t : Tg} {i e : Ex} {c : Option Ex} {φ : Fr} {st : Store} : evE C (.comp m t i c e) φ st = (evE C i φ st).bind fun x st => match itemsOf x with
    | some xs => if xs.length < line then (noX (turns (tbody C t c e φ) xs st)).bind fun ys st => mk m (.lst ys) st else none
    | none => compS C m t c e φ x st := rfl
/-- one turn of a for -/
noncomputable def fbody (C : Calls) (t : Tg) (b : List Sm) : D → Fr → Store → SR := fun d φ st => match bindT st t d φ with
        | some φ' => evSs C b φ' st
        | none => none
/-- a for over a list in the store -/
noncomputable def forS (C : Calls) (ws : List Nat) (t : Tg) (b : List Sm) (d : D) (φ : Fr) (st : Store) : SR := match itemsS st d with
  | some xs => forG (Same d xs) ws (fbody C t b) xs φ st
  | none => none
@[simp] theorem slots_nm {i : Nat} : (Tg.nm i).slots = [i] := rfl
@[simp] theorem wipeF_nil {φ : Fr} : wipeF φ [] = φ := rfl
@[simp] theorem wipeF_cons {φ : Fr} {v : Nat} {vs : List Nat} : wipeF φ (v :: vs) = (wipeF φ vs).set v none := rfl
@[simp] theorem noX_some {α : Type} {a : α} {st : Store} : noX (some (.ok a st)) = ok a st := rfl
theorem turns_pure {body : D → Store → Res (Option D)} {g : D → Option D} {st : Store} : ∀ {xs : List D}, (∀ x ∈ xs, body x st = ok (g x) st) → turns body xs st = ok (xs.filterMap g) st
  | [], _ => rfl
  | x :: xs, h => by
    show (body x st).bind _ = _
    rw [h x (List.mem_cons_self ..), bind_ok, turns_pure fun y hy => h y (List.mem_cons_of_mem _ hy), bind_ok, List.filterMap_cons]
    cases g x <;> rfl
end OM
namespace OM
open PySem (Str)
/-- a run ends well, with K -/
def En {α : Type} (m : Res α) (K : α → Store → Prop) : Prop := ∃ a st, m = ok a st ∧ K a st
/-- a run of statements -/
def WS (r : SR) (N : Fr → Store → Prop) (R : D → Store → Prop) (B Ct : Fr → Store → Prop) : Prop :=
  match r with
  | some (.nx φ st) => N φ st
  | some (.ret d st) => R d st
  | some (.brk φ st) => B φ st
  | some (.cnt φ st) => Ct φ st
  | _ => False
abbrev NF : Fr → Store → Prop := fun _ _ => False
section
variable {α β : Type} {st : Store} {φ : Fr} {N B Ct : Fr → Store → Prop} {R : D → Store → Prop}
@[simp] theorem en_ok {a : α} {K : α → Store → Prop} : En (ok a st) K ↔ K a st := ⟨fun ⟨_, _, e, q⟩ => (by cases e; exact q), fun q => ⟨a, st, rfl, q⟩⟩
@[simp] theorem en_bind {m : Res α} {f : α → Store → Res β} {K : β → Store → Prop} : En (m.bind f) K ↔ En m fun a st => En (f a st) K := by
  constructor
  · rintro ⟨b, s, e, q⟩
    cases m with
    | none => cases e
    | some o => cases o with
      | ok a s1 => exact ⟨a, s1, rfl, b, s, e, q⟩
      | exc x s1 => cases e
  · rintro ⟨a, s1, rfl, b, s, e, q⟩
    exact ⟨b, s, e, q⟩
@[simp] theorem en_lift {o : Option α} {K : α → Store → Prop} : En (lift o st) K ↔ ∃ a, o = some a ∧ K a st := by
  cases o with
  | none => exact ⟨fun ⟨_, _, e, _⟩ => (by cases e), fun ⟨_, e, _⟩ => (by cases e)⟩
  | some a => exact ⟨fun ⟨_, _, e, q⟩ => (by cases e; exact ⟨_, rfl, q⟩), fun ⟨_, e, q⟩ => by cases e; exact ⟨_, _, rfl, q⟩⟩
@[simp] theorem en_none {K : α → Store → Prop} : En (none : Res α) K ↔ False := ⟨fun ⟨_, _, e, _⟩ => (by cases e), False.elim⟩
@[simp] theorem en_noX {m : Res α} {K : α → Store → Prop} : En (noX m) K ↔ En m K := by
  cases m with
  | none => exact Iff.rfl
  | some o => cases o with
    | ok a s => exact Iff.rfl
    | exc x s => exact ⟨fun ⟨_, _, e, _⟩ => (by cases e), fun ⟨_, _, e, _⟩ => (by cases e)⟩
theorem En.imp {m : Res α} {K K' : α → Store → Prop} (h : En m K) (f : ∀ a s, K a s → K' a s) : En m K' := let ⟨a, s, e, q⟩ := h; ⟨a, s, e, f a s q⟩
@[simp] theorem ws_nx : WS (some (.nx φ st)) N R B Ct ↔ N φ st := Iff.rfl
@[simp] theorem ws_ret {d : D} : WS (some (.ret d st)) N R B Ct ↔ R d st := Iff.rfl
@[simp] theorem ws_brk : WS (some (.brk φ st)) N R B Ct ↔ B φ st := Iff.rfl
@[simp] theorem ws_cnt : WS (some (.cnt φ st)) N R B Ct ↔ Ct φ st := Iff.rfl
@[simp] theorem ws_none : WS none N R B Ct ↔ False := Iff.rfl
@[simp] theorem ws_toS {m : Res α} {f : α → Store → SR} : WS (m.toS φ f) N R B Ct ↔ En m fun a st => WS (f a st) N R B Ct := by
  cases m with
  | none => exact ⟨fun h => h.elim, fun ⟨_, _, e, _⟩ => (by cases e)⟩
  | some o => cases o with
    | ok a s => exact ⟨fun h => ⟨a, s, rfl, h⟩, fun ⟨_, _, e, q⟩ => by cases e; exact q⟩
    | exc x s => exact ⟨fun h => h.elim, fun ⟨_, _, e, _⟩ => (by cases e)⟩
@[simp] theorem ws_seq {r : SR} {f : Fr → Store → SR} : WS (r.seq f) N R B Ct ↔ WS r (fun φ st => WS (f φ st) N R B Ct) R B Ct := by
  cases r with
  | none => exact Iff.rfl
  | some o => cases o <;> exact Iff.rfl
theorem WS.imp {r : SR} {N' B' Ct' : Fr → Store → Prop} {R' : D → Store → Prop} (h : WS r N R B Ct) (hN : ∀ φ st, N φ st → N' φ st) (hR : ∀ d st, R d st → R' d st) (hB : ∀ φ st, B φ st → B' φ st) (hC : ∀ φ st, Ct φ st → Ct' φ st) : WS r N' R' B' Ct' := by
  cases r with
  | none => exact h
  | some o => cases o with
    | nx φ st => exact hN _ _ h
    | ret d st => exact hR _ _ h
    | brk φ st => exact hB _ _ h
    | cnt φ st => exact hC _ _ h
    | exc x φ st => exact h
theorem en_runD {C : Calls} {df : Df} {ds : List D} {K : D → Store → Prop} (hl : ds.length = df.np) (h : WS (evSs C df.body (ds.map some ++ List.replicate (df.ns - df.np) none) st) (fun _ st => K .non st) K NF NF) : En (runD C df ds st) K := by
  unfold runD
  rw [if_pos hl]
  cases e : evSs C df.body (ds.map some ++ List.replicate (df.ns - df.np) none) st with
  | none => rw [e] at h; exact h.elim
  | some o =>
    rw [e] at h
    cases o with
    | nx φ s => exact ⟨_, _, rfl, h⟩
    | ret d s => exact ⟨_, _, rfl, h⟩
    | _ => exact h.elim
/-- the turns of a comprehension, by an invariant -/
theorem en_turns {body : D → Store → Res (Option D)} {K : List D → Store → Prop} : ∀ {xs : List D} (I : Nat → List D → Store → Prop) (i : Nat) (acc : List D) {st : Store}, I i acc st →
    (∀ j d acc st, xs[j]? = some d → I (i + j) acc st → En (body d st) fun o st => I (i + j + 1) (match o with | some y => acc ++ [y] | none => acc) st) → (∀ r st, I (i + xs.length) (acc ++ r) st → K r st) → En (turns body xs st) K
  | [], I, i, acc, st, h, _, hd => ⟨[], st, rfl, hd [] st (by rw [List.append_nil]; exact h)⟩
  | x :: xs, I, i, acc, st, h, hs, hd => by
    obtain ⟨o, s1, e1, q1⟩ := hs 0 x acc st rfl h
    have e : turns body (x :: xs) st = (ok o s1).bind fun o st => (turns body xs st).bind fun r st => ok (match o with | some d => d :: r | none => r) st := by
      show (body x st).bind _ = _
      rw [e1] <;> rfl
    rw [e, bind_ok, en_bind]
    refine en_turns (xs := xs) I (i + 1) _ q1 (fun j d a s ed q => ?_) fun r s q => ?_
    · have := hs (j + 1) d a s (by simpa using ed) (by rw [show i + (j + 1) = i + 1 + j by omega]; exact q)
      rw [show i + (j + 1) = i + 1 + j by omega] at this
      exact this
    · rw [en_ok]
      have e2 : i + (x :: xs).length = i + 1 + xs.length := by simp; omega
      cases o with
      | none => exact hd r s (by rw [e2]; exact q)
      | some y =>
        refine hd (y :: r) s ?_
        rw [e2]
        have q' : I (i + 1 + xs.length) ((acc ++ [y]) ++ r) s := q
        rw [List.append_assoc] at q'
        exact q'
end
@[simp] theorem en_mkf {d : D} {st : Store} {K : D → Store → Prop} : En (mk false d st) K ↔ K d st := en_ok
@[simp] theorem en_mkt {xs : List D} {st : Store} {K : D → Store → Prop} : En (mk true (.lst xs) st) K ↔ K (.ref st.next) (st.new (.lst xs)) := en_ok
end OM
namespace OM
open PySem (Str)
section
variable {xs : List D} {x : D}
@[simp] theorem nr_non : nr .non = true := rfl
@[simp] theorem nr_bl {b : Bool} : nr (.bl b) = true := rfl
@[simp] theorem nr_int {i : Int} : nr (.int i) = true := rfl
@[simp] theorem nr_str {i : Str} : nr (.str i) = true := rfl
@[simp] theorem nr_fn {i : Nat} : nr (.fn i) = true := rfl
@[simp] theorem nr_tup : nr (.tup xs) = nrL xs := rfl
@[simp] theorem nr_lst : nr (.lst xs) = nrL xs := rfl
@[simp] theorem nr_dct {ks : List Str} : nr (.dct ks xs) = nrL xs := rfl
@[simp] theorem nr_obj {c : Str} {ks : List Str} : nr (.obj c ks xs) = nrL xs := rfl
@[simp] theorem nrL_nil : nrL [] = true := rfl
@[simp] theorem nrL_cons : nrL (x :: xs) = (nr x && nrL xs) := rfl
theorem nrL_iff : nrL xs = true ↔ ∀ x ∈ xs, nr x = true := by
  induction xs with
  | nil => simp
  | cons x xs ih => simp [ih]
theorem nrL_map {α : Type} {f : α → D} {l : List α} (h : ∀ a ∈ l, nr (f a) = true) : nrL (l.map f) = true := nrL_iff.mpr fun x hx => by
  obtain ⟨a, ha, rfl⟩ := List.mem_map.mp hx
  exact h a ha
@[simp] theorem nrL_strs {l : List Str} : nrL (l.map D.str) = true := nrL_map fun _ _ => rfl
@[simp] theorem nrL_ints {l : List Int} : nrL (l.map D.int) = true := nrL_map fun _ _ => rfl
@[simp] theorem nrL_bls {l : List Bool} : nrL (l.map D.bl) = true := nrL_map fun _ _ => rfl
end
/-- f of ds is d, whatever stands in the store -/
abbrev Pc (C : Calls) (f : Nat) (ds : List D) (d : D) : Prop := ∀ st, pureC (C f) ds st = ok d st
theorem pure_of {F : List D → Store → Res D} {ds : List D} {d : D} (h : En (F ds st0) fun d' _ => d' = d) (h1 : nrL ds = true) (h2 : nr d = true) (st : Store) : pureC F ds st = ok d st := by
  obtain ⟨d', s, e, rfl⟩ := h
  unfold pureC
  rw [if_pos h1, e]
  show (if nr d' then ok d' st else none) = _
  rw [if_pos h2]
/-- a def's run, as a pure call -/
theorem Pc.run {P : Defs} {n f : Nat} {df : Df} {ds : List D} {d : D} (hf : P[f]? = some df) (h : En (runD (callN P n) df ds st0) fun d' _ => d' = d) (h1 : nrL ds = true) (h2 : nr d = true) : Pc (callN P (n + 1)) f ds d := fun st => by
  refine pure_of ?_ h1 h2 st
  show En (match P[f]? with
    | some df => runD (callN P n) df ds st0
    | none => none) _
  rw [hf]
  exact h
/-- .. as a call -/
theorem call_run {P : Defs} {n f : Nat} {df : Df} {ds : List D} {st : Store} (hf : P[f]? = some df) : callN P (n + 1) f ds st = runD (callN P n) df ds st := by
  show (match P[f]? with
    | some df => runD (callN P n) df ds st
    | none => none) = _
  rw [hf]
section
variable {α : Type} {enc : α → D} {st : Store} {xs : List α}
theorem turns_of {body : D → Store → Res (Option D)} {g : α → Option D} (h : ∀ x ∈ xs, body (enc x) st = ok (g x) st) : turns body (xs.map enc) st = ok (xs.filterMap g) st := by
  have key : turns body (xs.map enc) st = ok (xs.filterMap g) st := by
    induction xs with
    | nil => rfl
    | cons x xs ih =>
      show (body (enc x) st).bind _ = _
      rw [h x (List.mem_cons_self ..), bind_ok, ih fun y hy => h y (List.mem_cons_of_mem _ hy), bind_ok, List.filterMap_cons]
      cases g x <;> rfl
  exact key
theorem turns_filt {body : D → Store → Res (Option D)} {p : α → Bool} (h : ∀ x ∈ xs, body (enc x) st = ok (if p x then some (enc x) else none) st) : turns body (xs.map enc) st = ok ((xs.filter p).map enc) st := by
  rw [turns_of (g := fun x => if p x then some (enc x) else none) h]
  congr 1
  clear h
  induction xs with
  | nil => rfl
  | cons x xs ih =>
    rw [List.filterMap_cons, List.filter_cons, ih]
    cases p x <;> rfl
end
theorem forw_eq {C : Calls} {ws : List Nat} {t : Tg} {i : Ex} {b : List Sm} {φ : Fr} {st : Store} : evS C (.forw ws t i b) φ st = (evE C i φ st).toS φ fun d st => match itemsOf d with
    | some xs => forW ws (fbody C t b) xs φ st
    | none => forS C ws t b d φ st := rfl
section
variable {N B Ct : Fr → Store → Prop} {R : D → Store → Prop}
/-- the turns, by an invariant of the frame that is left when the slots are forgotten -/
theorem ws_forW {ws : List Nat} {body : D → Fr → Store → SR} : ∀ {xs : List D} (I : Nat → Fr → Store → Prop) (i : Nat) {φ : Fr} {st : Store}, I i (wipeF φ ws) st → (∀ j d φ st, xs[j]? = some d → I (i + j) φ st → WS (body d φ st) (fun φ st => I (i + j + 1) (wipeF φ ws) st) R (fun φ st => N (wipeF φ ws) st) (fun φ st => I (i + j + 1) (wipeF φ ws) st)) → (∀ φ st, I (i + xs.length) φ st → N φ st) → WS (forW ws body xs φ st) N R B Ct
  | [], I, i, φ, st, h, _, hd => hd _ st h
  | x :: xs, I, i, φ, st, h, hs, hd => by
    have h1 := hs 0 x (wipeF φ ws) st rfl h
    show WS (match body x (wipeF φ ws) st with
      | some (.nx φ' st') => forW ws body xs φ' st'
      | some (.cnt φ' st') => forW ws body xs φ' st'
      | some (.brk φ' st') => some (.nx (wipeF φ' ws) st')
      | r => r) N R B Ct
    have next : ∀ φ' st', I (i + 1) (wipeF φ' ws) st' → WS (forW ws body xs φ' st') N R B Ct := fun φ' st' h' =>
      ws_forW (xs := xs) I (i + 1) h' (fun j d φ st e q => by
        have := hs (j + 1) d φ st (by simpa using e) (by rw [show i + (j + 1) = i + 1 + j by omega]; exact q)
        rw [show i + (j + 1) = i + 1 + j by omega] at this
        exact this) fun φ st q => hd φ st (by rw [show i + (x :: xs).length = i + 1 + xs.length by simp; omega]; exact q)
    cases e : body x (wipeF φ ws) st with
    | none => rw [e] at h1; exact h1.elim
    | some o =>
      rw [e] at h1
      cases o with
      | nx φ' st' => exact next φ' st' h1
      | cnt φ' st' => exact next φ' st' h1
      | brk φ' st' => exact h1
      | ret d st' => exact h1
      | exc y φ' st' => exact h1.elim
/-- .. by an invariant that forgetting keeps -/
theorem ws_forW2 {ws : List Nat} {body : D → Fr → Store → SR} {xs : List D} (I : Nat → Fr → Store → Prop) (hw : ∀ i φ st, I i φ st → I i (wipeF φ ws) st) (i : Nat) {φ : Fr} {st : Store} (h0 : I i φ st) (hs : ∀ j d φ st, xs[j]? = some d → I (i + j) φ st → WS (body d φ st) (I (i + j + 1)) R (fun φ st => N (wipeF φ ws) st) (I (i + j + 1))) (hd : ∀ φ st, I (i + xs.length) φ st → N φ st) : WS (forW ws body xs φ st) N R B Ct :=
  ws_forW I i (hw _ _ _ h0) (fun j d φ st e h => (hs j d φ st e h).imp (fun _ _ q => hw _ _ _ q) (fun _ _ q => q) (fun _ _ q => q) fun _ _ q => hw _ _ _ q) hd
end
end OM
namespace OM
open PySem (Str)
def dMixed : Df := ⟨2, 3, [
  .asg (.nm 2) (.bin .mod (.bin .pow (.bin .add (.bin .add (.bin .add (.bin .mod (.var 0) (.cst (.int 2147483647))) (.bin .mul (.bin .mul (.cst (.int 1009)) (.var 1)) (.var 1))) (.bin .mul (.cst (.int 48611)) (.var 1))) (.cst (.int 17))) (.cst (.int 5))) (.cst (.int 2147483647))),
  .ret (.bin .mod (.bin .add (.bin .mul (.var 2) (.cst (.int 39373))) (.bin .mul (.cst (.int 7919)) (.var 1))) (.cst (.int 1000000007)))]⟩
theorem mixed_run (C : Calls) (c k : Int) (st : Store) (h0 : 0 ≤ k) (h1 : k ≤ 30000000) : ∃ r : Int, runD C dMixed [.int c, .int k] st = ok (.int r) st ∧ 0 ≤ r ∧ r < 1000000007 := by
  have hk : k * k ≤ 30000000 * 30000000 := Int.mul_le_mul h1 h1 h0 (by omega)
  have hk0 : 0 ≤ k * k := Int.mul_nonneg h0 h0
  have hc := Int.emod_nonneg c (show (2147483647 : Int) ≠ 0 by decide)
  have hc2 := Int.emod_lt_of_pos c (show (0 : Int) < 2147483647 by decide)
  have hb : (c % 2147483647 + 1009 * k * k + 48611 * k + 17).natAbs < 2 ^ 64 := by
    have e : 1009 * k * k = 1009 * (k * k) := Int.mul_assoc ..
    rw [e]
    omega
  have k64 : k.natAbs < 2 ^ 64 := by omega
  refine ⟨((((c % 2147483647 + 1009 * k * k + 48611 * k + 17) ^ 5) % 2147483647) * 39373 + 7919 * k) % 1000000007, ?_, Int.emod_nonneg _ (by decide), Int.emod_lt_of_pos _ (by decide)⟩
  simp [runD, dMixed, evSs, evS, evE, hb, k64]
/-- the box stands at 1, the great numbers at 0; k draws have been made -/
structure Bx (st : Store) (k : Nat) : Prop where
  two : 2 ≤ st.next
  box : ∃ (gs : List Int) (p : Int) (sm : List Int), st.get 1 = some (.lst [.ref 0, .int p, .lst (sm.map .int), .int k]) ∧ st.get 0 = some (.lst (gs.map .int)) ∧ 0 ≤ p ∧ (∀ x ∈ gs, 0 < x) ∧ gs.length ≤ 1000 ∧ sm.length ≤ 1000
/-- the other things are as they were -/
structure Kp (st st' : Store) : Prop where
  next : st.next ≤ st'.next
  get : ∀ n, 2 ≤ n → n < st.next → st'.get n = st.get n
theorem Kp.refl (st : Store) : Kp st st := ⟨Nat.le_refl _, fun _ _ _ => rfl⟩
theorem Kp.trans {a b c : Store} (x : Kp a b) (y : Kp b c) : Kp a c := ⟨Nat.le_trans x.next y.next, fun n h1 h2 => (y.get n h1 (Nat.lt_of_lt_of_le h2 x.next)).trans (x.get n h1 h2)⟩
def takeWhile_ (mx : Nat) : Sm := .while (.cmp .lt (.var 4) (.var 1)) [.asg (.nm 2) (.bin .add (.bin .mul (.var 2) (.cst (.int 1000000007))) (.pcall mx [(.var 3), (.bin .add (.idx (.var 0) (.cst (.int 3))) (.bin .mul (.cst (.int 1000)) (.bin .mod (.var 2) (.cst (.int 89)))))])), .asg (.nm 4) (.bin .mul (.var 4) (.cst (.int 1000000007)))]
def takeRest (mx : Nat) : List Sm := [
  .asg (.nm 3) (.idx (.bin .add (.idx (.var 0) (.cst (.int 2))) (.lst false [(.bin .mul (.cst (.int 7)) (.idx (.var 0) (.cst (.int 3))))])) (.bin .mod (.idx (.var 0) (.cst (.int 3))) (.bi false .max2 [(.cst (.int 1)), (.bi false .len [(.idx (.var 0) (.cst (.int 2)))])]))),
  .asg (.nm 2) (.cst (.int 0)),
  .asg (.nm 4) (.cst (.int 1)),
  takeWhile_ mx,
  .ret (.bin .mod (.var 2) (.var 1))]
def dTake (mx : Nat) : Df := ⟨2, 5,
  .put (.var 0) (.cst (.int 3)) (.bin .add (.idx (.var 0) (.cst (.int 3))) (.cst (.int 1))) ::
  .ite (.and (.cmp .eq (.idx (.var 0) (.cst (.int 1))) (.cst (.int 0))) (.cmp .gt (.bi false .len [(.idx (.var 0) (.cst (.int 0)))]) (.cst (.int 0)))) [.put (.var 0) (.cst (.int 1)) (.mt .pop1 (.idx (.var 0) (.cst (.int 0))) [(.cst (.int 0))])] [] ::
  .ite (.cmp .gt (.idx (.var 0) (.cst (.int 1))) (.cst (.int 0))) [.asg (.nm 2) (.bin .mod (.idx (.var 0) (.cst (.int 1))) (.var 1)), .put (.var 0) (.cst (.int 1)) (.bin .div (.idx (.var 0) (.cst (.int 1))) (.var 1)), .ret (.var 2)] [] ::
  takeRest mx⟩
/-- what a draw leaves -/
def Drawn (st : Store) (k : Nat) (size : Int) : D → Store → Prop := fun d st' => ∃ r : Int, d = .int r ∧ 0 ≤ r ∧ r < size ∧ Bx st' (k + 1) ∧ Kp st st' ∧ st'.next = st.next
/-- a draw below size -/
def TakeOk (C : Calls) (tk : Nat) : Prop := ∀ (st : Store) (k : Nat) (size : Int), Bx st k → k ≤ 20000000 → 1 ≤ size → size ≤ 1000000007 → Ends (C tk [.ref 1, .int size] st) (Drawn st k size)
def MixedOk (C : Calls) (mx : Nat) : Prop := ∀ (c k : Int), 0 ≤ k → k ≤ 30000000 → ∃ r : Int, Pc C mx [.int c, .int k] (.int r) ∧ 0 ≤ r ∧ r < 1000000007
section
variable {C : Calls} {mx : Nat} {st : Store} {k : Nat} {size p : Int} {gs sm : List Int}
theorem bx_pos (h2 : 2 ≤ st.next) (h1 : st.get 1 = some (.lst [.ref 0, .int p, .lst (sm.map .int), .int k])) (h0 : st.get 0 = some (.lst (gs.map .int))) (hp : 0 < p) (hg : ∀ x ∈ gs, 0 < x) (hl : gs.length ≤ 1000) (hl2 : sm.length ≤ 1000) (hs : 1 ≤ size) (hs2 : size ≤ 1000000007) :
    Ends (runD C (dTake mx) [.ref 1, .int size] st) (Drawn st k size) := by
  have e0 : (p == 0) = false := by simpa using (by omega : p ≠ 0)
  have e1 : size < 1073741824 := by omega
  have e2 : 0 < size := by omega
  simp [runD, dTake, evSs, evS, evE, evL, h1, h0, e0, e1, e2, hp, ixN]
  exact ⟨_, rfl, Int.emod_nonneg _ (by omega), Int.emod_lt_of_pos _ (by omega), ⟨h2, gs, p / size, sm, by simp, by simp [h0], Int.ediv_nonneg (by omega) (by omega), hg, hl, hl2⟩, ⟨Nat.le_refl _, fun n h3 _ => by simp [show n ≠ 1 by omega]⟩, rfl⟩
theorem bx_pop {g : Int} (h2 : 2 ≤ st.next) (h1 : st.get 1 = some (.lst [.ref 0, .int 0, .lst (sm.map .int), .int k])) (h0 : st.get 0 = some (.lst ((g :: gs).map .int))) (hg : ∀ x ∈ g :: gs, 0 < x) (hl : (g :: gs).length ≤ 1000) (hl2 : sm.length ≤ 1000) (hs : 1 ≤ size) (hs2 : size ≤ 1000000007) :
    Ends (runD C (dTake mx) [.ref 1, .int size] st) (Drawn st k size) := by
  have e1 : size < 1073741824 := by omega
  have e2 : 0 < size := by omega
  have e3 : 0 < g := hg g (List.mem_cons_self ..)
  simp [runD, dTake, evSs, evS, evE, evL, h1, h0, e1, e2, e3, ixN]
  exact ⟨_, rfl, Int.emod_nonneg _ (by omega), Int.emod_lt_of_pos _ (by omega), ⟨h2, gs, g / size, sm, by simp, by simp, Int.ediv_nonneg (by omega) (by omega), fun x hx => hg x (List.mem_cons_of_mem _ hx), by simp at hl; omega, hl2⟩, ⟨Nat.le_refl _, fun n h3 _ => by simp [show n ≠ 1 by omega, show n ≠ 0 by omega]⟩, rfl⟩
theorem bx_none (hm : MixedOk C mx) (h2 : 2 ≤ st.next) (hk : k ≤ 20000000) (h1 : st.get 1 = some (.lst [.ref 0, .int 0, .lst (sm.map .int), .int k])) (h0 : st.get 0 = some (.lst [])) (hl2 : sm.length ≤ 1000) (hs : 1 ≤ size) (hs2 : size ≤ 1000000007) :
    Ends (runD C (dTake mx) [.ref 1, .int size] st) (Drawn st k size) := by
  have e1 : size < 1073741824 := by omega
  have e2 : 0 < size := by omega
  have hM : 0 < (if 1 < (sm.length : Int) then (sm.length : Int) else 1) := by split <;> omega
  have hi0 := Int.emod_nonneg ((k : Int) + 1) (show (if 1 < (sm.length : Int) then (sm.length : Int) else 1) ≠ 0 by omega)
  have hi1 := Int.emod_lt_of_pos ((k : Int) + 1) hM
  obtain ⟨c, hc⟩ : ∃ c, idxD (st.put 1 (some (.lst [.ref 0, .int 0, .lst (sm.map .int), .int (k + 1)]))) (.lst (sm.map .int ++ [.int (7 * (k + 1))])) (.int ((k + 1) % (if 1 < (sm.length : Int) then (sm.length : Int) else 1))) = some (.int c) := by
    generalize hI : ((k : Int) + 1) % (if 1 < (sm.length : Int) then (sm.length : Int) else 1) = I at hi0 hi1
    by_cases hlt : I.toNat < sm.length
    · refine ⟨sm[I.toNat], idx_of (k := I.toNat) rfl (by omega) ?_⟩
      rw [List.getElem?_append_left (by simpa using hlt), List.getElem?_map, List.getElem?_eq_getElem hlt] <;> rfl
    · have h00 : sm.length = 0 := by
        split at hi1 <;> omega
      have hI0 : I = 0 := by
        rw [h00] at hi1
        simp at hi1
        omega
      have : sm = [] := List.eq_nil_of_length_eq_zero h00
      subst this
      exact ⟨7 * (k + 1), idx_of (k := 0) rfl (by omega) rfl⟩
  simp [runD, dTake, evSs, evS, evE, evL, h1, h0, e1, e2, ixN]
  unfold takeRest
  have l1 : 1 ≤ line := by decide
  have l2 : sm.length + 1 ≤ line := by show sm.length + 1 ≤ 16777216; omega
  obtain ⟨m, hm1, m0, m1⟩ := hm c (k + 1) (by omega) (by omega)
  have fin : Bx (st.put 1 (some (.lst [.ref 0, .int 0, .lst (sm.map .int), .int (k + 1)]))) (k + 1) ∧ Kp st (st.put 1 (some (.lst [.ref 0, .int 0, .lst (sm.map .int), .int (k + 1)]))) :=
    ⟨⟨h2, [], 0, sm, by simp, by simp [h0], by omega, fun x hx => (by cases hx), by simp, hl2⟩, ⟨Nat.le_refl _, fun n h3 _ => by simp [show n ≠ 1 by omega]⟩⟩
  by_cases hs1 : 1 < size
  · have hs3 : ¬ (1000000007 < size) := by omega
    simp [-i_lst, evSs, evS, evE, evL, h1, h0, e1, e2, ixN, l1, l2, hM, hc, takeWhile_, while1000, while999, hs1, hs3, hm1]
    exact ⟨_, rfl, Int.emod_nonneg _ (by omega), Int.emod_lt_of_pos _ (by omega), fin.1, fin.2, rfl⟩
  · simp [-i_lst, evSs, evS, evE, evL, h1, h0, e1, e2, ixN, l1, l2, hM, hc, takeWhile_, while1000, hs1]
    exact ⟨_, rfl, by omega, by omega, fin.1, fin.2, rfl⟩
theorem take_run (hm : MixedOk C mx) (b : Bx st k) (hk : k ≤ 20000000) (hs : 1 ≤ size) (hs2 : size ≤ 1000000007) : Ends (runD C (dTake mx) [.ref 1, .int size] st) (Drawn st k size) := by
  obtain ⟨gs, p, sm, h1, h0, hp, hg, l1, l2⟩ := b.box
  by_cases hp0 : 0 < p
  · exact bx_pos b.two h1 h0 hp0 hg l1 l2 hs hs2
  · have : p = 0 := by omega
    subst this
    cases gs with
    | nil => exact bx_none hm b.two hk h1 h0 l2 hs hs2
    | cons g gs => exact bx_pop b.two h1 h0 hg l1 l2 hs hs2
end
def dBox : Df := ⟨1, 3, [
  .asg (.nm 1) (.comp true (.nm 2) (.var 0) (some (.cmp .ge (.var 2) (.bin .pow (.cst (.int 10)) (.cst (.int 18))))) (.var 2)),
  .ret (.lst true [(.var 1), (.cst (.int 0)), (.comp false (.nm 2) (.var 0) (some (.cmp .lt (.var 2) (.bin .pow (.cst (.int 10)) (.cst (.int 18))))) (.var 2)), (.cst (.int 0))])]⟩
theorem box_run (C : Calls) (ns : List Int) (hl : ns.length ≤ 1000) : Ends (runD C dBox [.scr ns] st0) (fun d st => d = .ref 1 ∧ Bx st 0 ∧ st.next = 2) := by
  have l1 : ns.length < line := by show ns.length < 16777216; omega
  have l2 : 4 ≤ line := by decide
  have part : ∀ (φ : Fr) (p : Int → Bool) (o : CO) (ho : ∀ st i, cmpop st o (.int i) (.int 1000000000000000000) = some (.bl (p i))) (h2 : φ.length = 3) (st : Store),
      turns (tbody C (.nm 2) (some (.cmp o (.var 2) (.bin .pow (.cst (.int 10)) (.cst (.int 18))))) (.var 2) φ) (ns.map .int) st = ok ((ns.filter p).map .int) st := fun φ p o ho h2 st => by
    rw [turns_pure (g := fun d => match d with
      | .int i => if p i then some (.int i) else none
      | _ => none)]
    · congr 1
      clear hl l1
      induction ns with
      | nil => rfl
      | cons n r ih =>
        simp only [List.map_cons, List.filterMap_cons, List.filter_cons, ih]
        cases p n <;> simp
    · intro x hx
      obtain ⟨n, _, rfl⟩ := List.mem_map.mp hx
      obtain ⟨a, b, c, rfl⟩ : ∃ a b c, φ = [a, b, c] := by
        match φ, h2 with
        | [a, b, c], _ => exact ⟨a, b, c, rfl⟩
      simp [tbody, evC, evE, ho]
      cases p n <;> rfl
  have p1 := fun φ => part φ (fun i => decide (1000000000000000000 ≤ i)) .ge (fun _ _ => rfl)
  have p2 := fun φ => part φ (fun i => decide (i < 1000000000000000000)) .lt (fun _ _ => rfl)
  simp [runD, dBox, evSs, evS, evE, ↓comp_eq, evL, l1, l2, p1, p2]
  refine ⟨rfl, ⟨Nat.le_refl 2, ns.filter (fun i => decide (1000000000000000000 ≤ i)), 0, ns.filter (fun i => decide (i < 1000000000000000000)), ?_, ?_, by omega, fun x hx => ?_, ?_, ?_⟩, rfl⟩
  · rfl
  · rfl
  · have := (List.mem_filter.mp hx).2
    simp at this
    omega
  · exact Nat.le_trans (List.length_filter_le ..) hl
  · exact Nat.le_trans (List.length_filter_le ..) hl
end OM
namespace OM
open PySem (Str)
section
variable {st : Store} {ns : List Str} {x : Str} {n : Nat}
theorem plain_strs : ∀ ns : List Str, plainL (ns.map D.str) = true
  | [] => rfl
  | _ :: r => by show (plain _ && plainL _) = true; rw [plain_strs r] <;> rfl
theorem dep_strs : ∀ ns : List Str, depL (ns.map D.str) = 0
  | [] => rfl
  | _ :: r => by show max (dep _) (depL _) = 0; rw [dep_strs r] <;> rfl
theorem any_strs (x : Str) : ∀ ns : List Str, ((ns.map D.str).any fun z => peq z (.str x)) = decide (x ∈ ns)
  | [] => by simp
  | y :: r => by
    rw [List.map_cons, List.any_cons, any_strs x r]
    have e : peq (.str y) (.str x) = (y == x) := rfl
    rw [e, Bool.eq_iff_iff]
    simp only [Bool.or_eq_true, beq_iff_eq, decide_eq_true_eq, List.mem_cons]
    constructor
    · rintro (h | h)
      · exact .inl h.symm
      · exact .inr h
    · rintro (h | h)
      · exact .inl h.symm
      · exact .inr h
@[simp] theorem in_lst : inD st (.str x) (.lst (ns.map .str)) = some (decide (x ∈ ns)) := by
  have e1 : look st (.lst (ns.map D.str)) = some (.lst (ns.map D.str)) := by
    show (if plain (.lst (ns.map D.str)) then _ else _) = _
    rw [show plain (.lst (ns.map D.str)) = true from plain_strs ns] <;> rfl
  show (match look st (.str x), look st (.lst (ns.map D.str)) with
    | some x, some (.lst ys) => if dep x ≤ 64 ∧ depL ys < 64 then some (ys.any fun z => peq z x) else none
    | some x, some (.tup ys) => if dep x ≤ 64 ∧ depL ys < 64 then some (ys.any fun z => peq z x) else none
    | _, _ => none) = _
  rw [e1]
  show (if dep (.str x) ≤ 64 ∧ depL (ns.map D.str) < 64 then some ((ns.map D.str).any fun z => peq z (.str x)) else none) = _
  rw [dep_strs, if_pos ⟨(show (0 : Nat) ≤ 64 by decide), (show (0 : Nat) < 64 by decide)⟩, any_strs]
@[simp] theorem in_tup : inD st (.str x) (.tup (ns.map .str)) = some (decide (x ∈ ns)) := by
  have e1 : look st (.tup (ns.map D.str)) = some (.tup (ns.map D.str)) := by
    show (if plain (.tup (ns.map D.str)) then _ else _) = _
    rw [show plain (.tup (ns.map D.str)) = true from plain_strs ns] <;> rfl
  show (match look st (.str x), look st (.tup (ns.map D.str)) with
    | some x, some (.lst ys) => if dep x ≤ 64 ∧ depL ys < 64 then some (ys.any fun z => peq z x) else none
    | some x, some (.tup ys) => if dep x ≤ 64 ∧ depL ys < 64 then some (ys.any fun z => peq z x) else none
    | _, _ => none) = _
  rw [e1]
  show (if dep (.str x) ≤ 64 ∧ depL (ns.map D.str) < 64 then some ((ns.map D.str).any fun z => peq z (.str x)) else none) = _
  rw [dep_strs, if_pos ⟨(show (0 : Nat) ≤ 64 by decide), (show (0 : Nat) < 64 by decide)⟩, any_strs]
theorem in_ref (h : st.get n = some (.lst (ns.map .str))) : inD st (.str x) (.ref n) = some (decide (x ∈ ns)) := by
  have e1 : look st (.ref n) = some (.lst (ns.map D.str)) := by
    simp only [look, h, plain_strs, if_true]
  simp only [inD, h, e1]
  show (if dep (.str x) ≤ 64 ∧ depL (ns.map D.str) < 64 then some ((ns.map D.str).any fun z => peq z (.str x)) else none) = _
  rw [dep_strs, if_pos ⟨(show (0 : Nat) ≤ 64 by decide), (show (0 : Nat) < 64 by decide)⟩, any_strs]
theorem strsOf_map : ∀ ns : List Str, strsOf (ns.map D.str) = some ns
  | [] => rfl
  | x :: r => by
    show (strsOf (r.map D.str)).map (x :: ·) = _
    rw [strsOf_map r] <;> rfl
end
def sign (c : Nat) : Str := ⟨#[c]⟩
theorem join_signs : ∀ cs : List Nat, Str.join "" (cs.map sign) = ⟨cs.toArray⟩
  | [] => rfl
  | [c] => rfl
  | c :: d :: r => by
    show sign c ++ ("" : Str) ++ Str.join "" ((d :: r).map sign) = _
    rw [join_signs (d :: r)]
    show (⟨(#[c] ++ #[]) ++ (d :: r).toArray⟩ : Str) = _
    simp
theorem sum_signs : ∀ cs : List Nat, (((cs.map sign).map fun x => x.length).sum) = cs.length
  | [] => rfl
  | c :: r => by
    show 1 + (((r.map sign).map fun x => x.length).sum) = r.length + 1
    rw [sum_signs r]
    omega
theorem join_run {st : Store} {cs : List Nat} (h : cs.length ≤ 1000) : mtF st .join (.str "") [.lst (cs.map fun c => .str (sign c))] = some (.str ⟨cs.toArray⟩, st) := by
  have e1 : (cs.map fun c => D.str (sign c)) = (cs.map sign).map D.str := by rw [List.map_map] <;> rfl
  rw [e1]
  simp only [mtF, s_lst, strsOf_map]
  rw [if_pos, join_signs]
  rw [sum_signs, List.length_map, show ("" : Str).length = 0 from rfl]
  show cs.length + 0 * cs.length + cs.length ≤ 16777216
  omega
def letters : Str := "abcdefghijklmnopqrstuvwxyz"
theorem letters_list : letters.cps.toList = [97, 98, 99, 100, 101, 102, 103, 104, 105, 106, 107, 108, 109, 110, 111, 112, 113, 114, 115, 116, 117, 118, 119, 120, 121, 122] := by decide +kernel
theorem take_en {C : Calls} {tk : Nat} (h : TakeOk C tk) {st : Store} {k : Nat} {size : Int} (b : Bx st k) (hk : k ≤ 20000000) (h1 : 1 ≤ size) (h2 : size ≤ 1000000007) {K : D → Store → Prop}
    (q : ∀ (r : Int) st', 0 ≤ r → r < size → Bx st' (k + 1) → Kp st st' → st'.next = st.next → K (.int r) st') : En (C tk [.ref 1, .int size] st) K :=
  En.imp (h st k size b hk h1 h2) fun d st' ⟨r, e, h1, h2, h3, h4, h5⟩ => by subst e; exact q r st' h1 h2 h3 h4 h5
theorem idx3 {st : Store} {r : Int} (h0 : 0 ≤ r) (h1 : r < 3) : ∃ z : Int, idxD st (.lst [.int 1, .int 2, .int 8]) (.int r) = some (.int z) ∧ 1 ≤ z ∧ z ≤ 8 := by
  have : r = 0 ∨ r = 1 ∨ r = 2 := by omega
  rcases this with rfl | rfl | rfl
  · exact ⟨1, rfl, by decide, by decide⟩
  · exact ⟨2, rfl, by decide, by decide⟩
  · exact ⟨8, rfl, by decide, by decide⟩
theorem letter_at {st : Store} {r : Int} (h0 : 0 ≤ r) (h1 : r < 26) : idxD st (.str letters) (.int r) = some (.str (sign (97 + r.toNat))) := by
  show (if 0 ≤ r then (letters.cps.toList[r.toNat]?).map fun c => D.str ⟨#[c]⟩ else none) = _
  rw [if_pos h0, letters_list]
  have h2 : r.toNat < 26 := by omega
  generalize r.toNat = j at h2
  have : ∀ j < 26, ([97, 98, 99, 100, 101, 102, 103, 104, 105, 106, 107, 108, 109, 110, 111, 112, 113, 114, 115, 116, 117, 118, 119, 120, 121, 122] : List Nat)[j]? = some (97 + j) := by decide
  rw [this j h2] <;> rfl
/-- a name as the laws draw it -/
structure Nm (x : Str) : Prop where
  lo : 1 ≤ x.length
  hi : x.length ≤ 8
  let_ : ∀ c ∈ x.cps.toList, 97 ≤ c ∧ c ≤ 122
def letterEx (tk : Nat) : Ex := .idx (.var 2) (.call tk [(.var 0), (.cst (.int 26))])
def signs_ (cs : List Nat) : List D := cs.map fun c => .str (sign c)
/-- letters drawn -/
theorem letters_run {C : Calls} {tk : Nat} (ht : TakeOk C tk) {φ : Fr} {v n : Nat} (hv0 : v ≠ 0) (hv2 : v ≠ 2) (e0 : φ[0]? = some (some (.ref 1))) (e2 : φ[2]? = some (some (.str letters))) {st : Store} {k : Nat} (b : Bx st k) (hk : k + n ≤ 20000000) {xs : List D} (hx : xs.length = n) {K : List D → Store → Prop}
    (q : ∀ (cs : List Nat) st', cs.length = n → (∀ c ∈ cs, 97 ≤ c ∧ c ≤ 122) → Bx st' (k + n) → Kp st st' → st'.next = st.next → K (signs_ cs) st') : En (turns (tbody C (.nm v) none (letterEx tk) φ) xs st) K := by
  refine en_turns (fun i acc s => ∃ cs : List Nat, acc = signs_ cs ∧ cs.length = i ∧ i ≤ n ∧ (∀ c ∈ cs, 97 ≤ c ∧ c ≤ 122) ∧ Bx s (k + i) ∧ Kp st s ∧ s.next = st.next) 0 [] ⟨[], rfl, rfl, Nat.zero_le _, fun c hc => (by cases hc), b, .refl _, rfl⟩ (fun j d acc s ed h => ?_) fun r s h => ?_
  · obtain ⟨cs, rfl, hl, hj, hc, bx, kp, nx⟩ := h
    rw [Nat.zero_add] at hl hj bx ⊢
    have hjn : j < n := by rw [← hx]; exact (List.getElem?_eq_some_iff.mp ed).1
    have f0 : ((wipeF φ (Tg.nm v).slots).set v (some d))[0]? = some (some (.ref 1)) := by
      simp only [slots_nm, wipeF_cons, wipeF_nil]
      rw [List.getElem?_set_ne hv0, List.getElem?_set_ne hv0, e0]
    have f2 : ((wipeF φ (Tg.nm v).slots).set v (some d))[2]? = some (some (.str letters)) := by
      simp only [slots_nm, wipeF_cons, wipeF_nil]
      rw [List.getElem?_set_ne hv2, List.getElem?_set_ne hv2, e2]
    simp only [tbody, bt_nm, evC, letterEx, evE, evL, f0, f2, en_ok, en_bind, if_true, bind_ok]
    refine take_en ht bx (by omega) (by decide) (by decide) fun r s1 h1 h2 b1 k1 e1 => ?_
    rw [en_lift]
    refine ⟨_, letter_at h1 h2, cs ++ [97 + r.toNat], by simp [signs_], by simp [hl], by omega, fun c hc' => ?_, by rw [Nat.add_assoc] at b1; exact b1, kp.trans k1, by rw [e1, nx]⟩
    rcases List.mem_append.mp hc' with z | z
    · exact hc c z
    · have : c = 97 + r.toNat := by simpa using z
      omega
  · obtain ⟨cs, e, hl, _, hc, bx, kp, nx⟩ := h
    rw [List.nil_append] at e
    subst e
    rw [Nat.zero_add, hx] at hl bx
    exact q cs s hl hc bx kp nx
/-- the letters that are no name yet -/
theorem spare_run {C : Calls} {φ : Fr} {st : Store} {n0 : Nat} {ns : List Str} (e3 : φ[3]? = some (some (.ref n0))) (hl8 : φ.length = 9) (hg : st.get n0 = some (.lst (ns.map .str))) :
    turns (tbody C (.nm 8) (some (.cmp .notin (.var 8) (.var 3))) (.var 8) φ) (letters.cps.toList.map fun c => .str ⟨#[c]⟩) st = ok (((letters.cps.toList.map sign).filter fun x => decide (x ∉ ns)).map .str) st := by
  rw [turns_pure (g := fun d => match d with
      | .str x => if x ∈ ns then none else some (.str x)
      | _ => none)]
  · congr 1
    generalize letters.cps.toList = cs
    induction cs with
    | nil => rfl
    | cons c r ih =>
      rw [List.map_cons, List.filterMap_cons, ih, List.map_cons, List.filter_cons]
      by_cases z : sign c ∈ ns
      · have z' : (⟨#[c]⟩ : Str) ∈ ns := z
        simp [z, z']
      · have z' : (⟨#[c]⟩ : Str) ∉ ns := z
        simp [z, z']
        rfl
  · intro x hx
    obtain ⟨c, _, rfl⟩ := List.mem_map.mp hx
    have f3 : ((wipeF φ (Tg.nm 8).slots).set 8 (some (.str ⟨#[c]⟩)))[3]? = some (some (.ref n0)) := by
      simp only [slots_nm, wipeF_cons, wipeF_nil]
      rw [List.getElem?_set_ne (by decide), List.getElem?_set_ne (by decide), e3]
    have f8 : ((wipeF φ (Tg.nm 8).slots).set 8 (some (.str ⟨#[c]⟩)))[8]? = some (some (.str ⟨#[c]⟩)) := by
      simp only [slots_nm, wipeF_cons, wipeF_nil]
      rw [List.getElem?_set_self (by rw [List.length_set, hl8]; decide)]
    simp only [tbody, bt_nm, evC, evE, f3, f8, bind_ok, c_notin, in_ref hg, Option.map_some, lift_ok, t_bl]
    by_cases z : (⟨#[c]⟩ : Str) ∈ ns
    · simp [z]
    · simp [z]
theorem nodup_sub_len : ∀ {L ns : List Str}, L.Nodup → (∀ x ∈ L, x ∈ ns) → L.length ≤ ns.length
  | [], _, _, _ => Nat.zero_le _
  | x :: r, ns, nd, h => by
    have h1 := List.nodup_cons.mp nd
    have hx := h x (List.mem_cons_self ..)
    have := nodup_sub_len (L := r) (ns := ns.erase x) h1.2 fun y hy => (List.mem_erase_of_ne (fun (e : y = x) => h1.1 (e ▸ hy))).mpr (h y (List.mem_cons_of_mem _ hy))
    rw [List.length_erase_of_mem hx] at this
    have := List.length_pos_of_mem hx
    show r.length + 1 ≤ ns.length
    omega
theorem spare_some {ns : List Str} (hl : ns.length < 26) : ∃ x, ((letters.cps.toList.map sign).filter fun x => decide (x ∉ ns))[0]? = some x ∧ x ∉ ns ∧ Nm x := by
  have nd : (letters.cps.toList.map sign).Nodup := by rw [letters_list]; decide +kernel
  have ln : (letters.cps.toList.map sign).length = 26 := by rw [letters_list] <;> rfl
  cases h : (letters.cps.toList.map sign).filter fun x => decide (x ∉ ns) with
  | nil =>
    exfalso
    have sub : ∀ x ∈ (letters.cps.toList.map sign), x ∈ ns := fun x hx => by
      rw [List.filter_eq_nil_iff] at h
      have := h x hx
      simpa using this
    have := nodup_sub_len nd sub
    omega
  | cons x r =>
    have hx : x ∈ (letters.cps.toList.map sign).filter fun x => decide (x ∉ ns) := by rw [h]; exact List.mem_cons_self ..
    have h1 := List.mem_filter.mp hx
    refine ⟨x, rfl, by simpa using h1.2, ?_⟩
    obtain ⟨c, hc, rfl⟩ := List.mem_map.mp h1.1
    rw [letters_list] at hc
    have : ∀ c ∈ ([97, 98, 99, 100, 101, 102, 103, 104, 105, 106, 107, 108, 109, 110, 111, 112, 113, 114, 115, 116, 117, 118, 119, 120, 121, 122] : List Nat), 97 ≤ c ∧ c ≤ 122 := by decide
    exact ⟨Nat.le_refl 1, (show 1 ≤ 8 by decide), fun d hd => by
      have e : d = c := by
        have : d ∈ [c] := hd
        simpa using this
      rw [e]; exact this c hc⟩
def namesBody (tk : Nat) : List Sm := [.asg (.nm 5) (.bin .add (.cst (.int 1)) (.call tk [(.var 0), (.idx (.lst false [(.cst (.int 1)), (.cst (.int 2)), (.cst (.int 8))]) (.call tk [(.var 0), (.cst (.int 3))]))])), .asg (.nm 6) (.mt .join (.cst (.str "")) [(.comp false (.nm 7) (.range (.cst (.int 0)) (.var 5)) none (letterEx tk))]), .ex (.mt .append (.var 3) [(.ite (.cmp .notin (.var 6) (.var 3)) (.var 6) (.idx (.comp false (.nm 8) (.var 2) (some (.cmp .notin (.var 8) (.var 3))) (.var 8)) (.cst (.int 0))))])]
def dNames (tk : Nat) : Df := ⟨2, 9, [
  .asg (.nm 2) (.cst (.str "abcdefghijklmnopqrstuvwxyz")),
  .asg (.nm 3) (.lst true []),
  .forw [4, 5, 6, 7] (.nm 4) (.range (.cst (.int 0)) (.var 1)) (namesBody tk),
  .frz 3,
  .ret (.var 3)]⟩
section
variable {C : Calls} {tk : Nat} {st : Store} {k : Nat}
theorem names_step (ht : TakeOk C tk) {n0 : Nat} {ns : List Str} {many : D} {a b c e f : Option D} {v : D} (h2 : 2 ≤ n0) (hn : n0 < st.next) (hb : Bx st k) (hk : k + 10 ≤ 20000000) (hg : st.get n0 = some (.lst (ns.map .str))) (hl : ns.length < 26) {N : Fr → Store → Prop}
    (q : ∀ a b c e f st' x k', x ∉ ns → Nm x → k ≤ k' → k' ≤ k + 10 → Bx st' k' → st'.next = st.next → st'.get n0 = some (.lst ((ns ++ [x]).map .str)) → (∀ m, 2 ≤ m → m < st.next → m ≠ n0 → st'.get m = st.get m) → N [some (.ref 1), some many, some (.str letters), some (.ref n0), a, b, c, e, f] st') {R : D → Store → Prop} {B Ct : Fr → Store → Prop} :
    WS (fbody C (.nm 4) (namesBody tk) v [some (.ref 1), some many, some (.str letters), some (.ref n0), a, b, c, e, f] st) N R B Ct := by
  have l3 : 3 ≤ line := by decide
  have l26 : 26 < line := by decide
  simp [fbody, namesBody, evSs, evS, evE, evL, ↓comp_eq, l3]
  refine take_en ht hb (by omega) (by decide) (by decide) fun r1 s1 a1 a2 b1 k1 e1 => ?_
  obtain ⟨z, hz, z1, z8⟩ := idx3 (st := s1) a1 a2
  refine ⟨_, hz, take_en ht b1 (by omega) z1 (by omega) fun r2 s2 c1 c2 b2 k2 e2 => ?_⟩
  have ra : 1 + r2 ≤ 1000000 ∧ (1 + r2).natAbs < 4611686018427387904 := by omega
  have rl : (1 + r2).toNat < line := by
    have : (1 + r2).toNat ≤ 8 := by omega
    exact Nat.lt_of_le_of_lt this (by decide)
  simp [ra, rl]
  have rn : (1 + r2).toNat ≤ 8 ∧ 1 ≤ (1 + r2).toNat := by omega
  refine letters_run ht (n := (1 + r2).toNat) (by decide) (by decide) rfl rfl b2 (by omega) (by simp) fun cs s3 hcl hc b3 k3 e3 => ?_
  rw [signs_, join_run (by omega)]
  have kp : Kp st s3 := (k1.trans k2).trans k3
  have nx : s3.next = st.next := by rw [e3, e2, e1]
  have g3 : s3.get n0 = some (.lst (ns.map .str)) := by rw [kp.get n0 h2 hn, hg]
  have hll : ns.length < line := Nat.lt_trans hl (by decide)
  have nme : Nm ⟨cs.toArray⟩ := ⟨by show 1 ≤ cs.toArray.size; simp; omega, by show cs.toArray.size ≤ 8; simp; omega, by simpa using hc⟩
  have n01 : n0 ≠ 1 := by omega
  have n00 : n0 ≠ 0 := by omega
  have fin : ∀ x, x ∉ ns → Nm x → ∀ a b c e f, N [some (.ref 1), some many, some (.str letters), some (.ref n0), a, b, c, e, f] (s3.put n0 (some (.lst ((ns ++ [x]).map .str)))) := fun x hx hm a b c e f => by
    refine q a b c e f _ x (k + 1 + 1 + (1 + r2).toNat) hx hm (by omega) (by omega) ⟨by rw [put_next]; exact b3.two, ?_⟩ (by rw [put_next, nx]) (by rw [put_get_if, if_pos rfl]) fun m h3 h4 h5 => by rw [put_get_if, if_neg h5]; exact kp.get m h3 h4
    obtain ⟨gs, p, sm, q1, q2, q3⟩ := b3.box
    exact ⟨gs, p, sm, by rw [put_get_if, if_neg (Ne.symm n01)]; exact q1, by rw [put_get_if, if_neg (Ne.symm n00)]; exact q2, q3⟩
  by_cases hx : (⟨cs.toArray⟩ : Str) ∈ ns
  · obtain ⟨x, hx0, hx1, hx2⟩ := spare_some hl
    simp [g3, in_ref g3, hx]
    rw [show itemsOf (.str letters) = some (letters.cps.toList.map fun c => .str ⟨#[c]⟩) from rfl]
    have l26' : (letters.cps.toList.map fun c => D.str ⟨#[c]⟩).length < line := by rw [List.length_map, letters_list]; decide
    dsimp only
    rw [if_pos l26', spare_run rfl rfl g3]
    have hi : idxD s3 (.lst (((letters.cps.toList.map sign).filter fun x => decide (x ∉ ns)).map .str)) (.int 0) = some (.str x) := idx_of (k := 0) rfl (by omega) (by rw [List.getElem?_map, hx0] <;> rfl)
    simp only [noX_ok, en_bind, en_ok]
    refine ⟨_, hi, ?_⟩
    simp only [g3, List.length_map, hll, if_true, en_ok]
    have z := fin x hx1 hx2 (some v) (some (D.int (1 + r2))) (some (D.str { cps := cs.toArray })) e f
    rw [List.map_append] at z
    exact z
  · simp [g3, in_ref g3, hx, hll]
    have z := fin _ hx nme (some v) (some (D.int (1 + r2))) (some (D.str { cps := cs.toArray })) e f
    rw [List.map_append] at z
    exact z
/-- names: different ones -/
def NamesOk (C : Calls) (f : Nat) : Prop := ∀ (st : Store) (k : Nat) (many : Int), Bx st k → k ≤ 10000000 → 0 ≤ many → many ≤ 20 →
  En (C f [.ref 1, .int many] st) fun d st' => ∃ (ns : List Str) (k' : Nat), d = .lst (ns.map .str) ∧ (ns.length : Int) = many ∧ ns.Nodup ∧ (∀ x ∈ ns, Nm x) ∧ k ≤ k' ∧ k' ≤ k + 200 ∧ Bx st' k' ∧ Kp st st'
theorem names_run (ht : TakeOk C tk) (hb : Bx st k) (hk : k ≤ 10000000) {many : Int} (h0 : 0 ≤ many) (h1 : many ≤ 20) :
    En (runD C (dNames tk) [.ref 1, .int many] st) fun d st' => ∃ (ns : List Str) (k' : Nat), d = .lst (ns.map .str) ∧ (ns.length : Int) = many ∧ ns.Nodup ∧ (∀ x ∈ ns, Nm x) ∧ k ≤ k' ∧ k' ≤ k + 200 ∧ Bx st' k' ∧ Kp st st' := by
  refine en_runD rfl ?_
  have c1 : many ≤ 1000000 ∧ many.natAbs < 4611686018427387904 := by omega
  have l0 : 0 ≤ line := Nat.zero_le _
  simp [dNames, evSs, evS, evE, evL, ↓forw_eq, c1, l0]
  have two := hb.two
  have n01 : st.next ≠ 1 := by omega
  have n00 : st.next ≠ 0 := by omega
  refine ws_forW2 (fun i φ s => ∃ (ns : List Str) (k' : Nat) (a b c e f : Option D), φ = [some (.ref 1), some (.int many), some (.str letters), some (.ref st.next), a, b, c, e, f] ∧ ns.length = i ∧ ns.Nodup ∧ (∀ x ∈ ns, Nm x) ∧ k ≤ k' ∧ k' ≤ k + 10 * i ∧ Bx s k' ∧ s.next = st.next + 1 ∧ s.get st.next = some (.lst (ns.map .str)) ∧ ∀ m, 2 ≤ m → m < st.next → s.get m = st.get m) (by
      rintro i φ s ⟨ns, k', a, b, c, e, f, rfl, r⟩
      exact ⟨ns, k', none, none, none, none, f, rfl, r⟩) 0
    ⟨[], k, none, none, none, none, none, rfl, rfl, .nil, fun x hx => (by cases hx), Nat.le_refl _, by omega, ?_, rfl, by simp, fun m h2 h3 => new_get_ne (by omega)⟩ (fun j d φ s ed h => ?_) fun φ s h => ?_
  · obtain ⟨gs, p, sm, q1, q2, q3⟩ := hb.box
    exact ⟨by rw [new_next]; omega, gs, p, sm, by rw [new_get_ne (by omega)]; exact q1, by rw [new_get_ne (by omega)]; exact q2, q3⟩
  · obtain ⟨ns, k', a, b, c, e, f, rfl, hl, nd, nm, q1, q2, bx, nx, gn, kp⟩ := h
    have hj : j < many.toNat := by
      have := (List.getElem?_eq_some_iff.mp ed).1
      simpa using this
    refine names_step ht two (by omega) bx (by omega) gn (by omega) fun a b c e f st' x k2 hx hm g1 g2 bx2 nx2 gn2 kp2 => ?_
    refine ⟨ns ++ [x], k2, a, b, c, e, f, rfl, by simp; omega, ?_, ?_, by omega, by omega, bx2, by rw [nx2, nx], gn2, fun m h2 h3 => by rw [kp2 m h2 (by omega) (by omega)]; exact kp m h2 h3⟩
    · rw [List.nodup_append]
      refine ⟨nd, by simp, fun y hy z hz => ?_⟩
      have : z = x := by simpa using hz
      rw [this]
      exact fun e => hx (e ▸ hy)
    · intro y hy
      rcases List.mem_append.mp hy with z | z
      · exact nm y z
      · have : y = x := by simpa using z
        rw [this]; exact hm
  · obtain ⟨ns, k', a, b, c, e, f, rfl, hl, nd, nm, q1, q2, bx, nx, gn, kp⟩ := h
    simp [gn]
    have hl2 : ns.length = many.toNat := by simpa using hl
    refine ⟨ns, rfl, by omega, nd, nm, k', q1, ?_, ?_, ?_⟩
    · simp at q2; omega
    · obtain ⟨gs, p, sm, q1, q2, q3⟩ := bx.box
      exact ⟨by rw [put_next]; omega, gs, p, sm, by rw [put_get_if, if_neg (Ne.symm n01)]; exact q1, by rw [put_get_if, if_neg (Ne.symm n00)]; exact q2, q3⟩
    · exact ⟨by rw [put_next]; omega, fun m h2 h3 => by rw [put_get_if, if_neg (by omega)]; exact kp m h2 h3⟩
end
end OM
namespace OM
open PySem (Str)
def dSome (tk : Nat) : Df := ⟨2, 4, [
  .asg (.nm 2) (.bi true .list [(.var 1)]),
  .ret (.comp true (.nm 3) (.range (.cst (.int 0)) (.bin .add (.cst (.int 1)) (.call tk [(.var 0), (.bi false .len [(.var 2)])]))) none (.mt .pop1 (.var 2) [(.call tk [(.var 0), (.bi false .len [(.var 2)])])]))]⟩
theorem Bx.putN {st : Store} {k n : Nat} {o : Option Ob} (b : Bx st k) (h : 2 ≤ n) : Bx (st.put n o) k := by
  obtain ⟨gs, p, sm, q1, q2, q3⟩ := b.box
  exact ⟨by rw [put_next]; exact b.two, gs, p, sm, by rw [put_get_if, if_neg (by omega)]; exact q1, by rw [put_get_if, if_neg (by omega)]; exact q2, q3⟩
theorem Bx.newN {st : Store} {k : Nat} {o : Ob} (b : Bx st k) : Bx (st.new o) k := by
  obtain ⟨gs, p, sm, q1, q2, q3⟩ := b.box
  have two := b.two
  exact ⟨by rw [new_next]; omega, gs, p, sm, by rw [new_get_ne (by omega)]; exact q1, by rw [new_get_ne (by omega)]; exact q2, q3⟩
theorem Kp.newN {st : Store} {o : Ob} : Kp st (st.new o) := ⟨Nat.le_succ _, fun n h1 h2 => new_get_ne (by omega)⟩
theorem erase_perm {α : Type} : ∀ {l : List α} {i : Nat} (h : i < l.length), (l[i] :: l.eraseIdx i).Perm l
  | x :: r, 0, _ => List.Perm.refl _
  | x :: r, i + 1, h => by
    have h' : i < r.length := by simpa using h
    show (r[i] :: x :: r.eraseIdx i).Perm (x :: r)
    exact (List.Perm.swap _ _ _).trans (List.Perm.cons x (erase_perm h'))
/-- some items of a list, in another order -/
def SomeOk (C : Calls) (f : Nat) : Prop := ∀ (st : Store) (k : Nat) (l : D) (vs : List D), Bx st k → k ≤ 10000000 → (l = .lst vs ∨ l = .tup vs) → 1 ≤ vs.length → vs.length ≤ 1000 →
  En (C f [.ref 1, l] st) fun d st' => ∃ (r k' : Nat) (us rest : List D), d = .ref r ∧ st.next ≤ r ∧ r < st'.next ∧ st'.get r = some (.lst us) ∧ (us ++ rest).Perm vs ∧ 1 ≤ us.length ∧ k ≤ k' ∧ k' ≤ k + (vs.length + 1) ∧ Bx st' k' ∧ Kp st st'
section
variable {C : Calls} {tk : Nat} {st : Store} {k : Nat}
theorem some_run (ht : TakeOk C tk) (hb : Bx st k) (hk : k ≤ 10000000) {l : D} {vs : List D} (hv : l = .lst vs ∨ l = .tup vs) (h1 : 1 ≤ vs.length) (h2 : vs.length ≤ 1000) :
    En (runD C (dSome tk) [.ref 1, l] st) fun d st' => ∃ (r k' : Nat) (us rest : List D), d = .ref r ∧ st.next ≤ r ∧ r < st'.next ∧ st'.get r = some (.lst us) ∧ (us ++ rest).Perm vs ∧ 1 ≤ us.length ∧ k ≤ k' ∧ k' ≤ k + (vs.length + 1) ∧ Bx st' k' ∧ Kp st st' := by
  refine en_runD rfl ?_
  have e1 : biF st .list [l] = some (.lst vs) := by rcases hv with rfl | rfl <;> rfl
  simp [dSome, evSs, evS, evE, evL, ↓comp_eq, e1]
  have two := hb.two
  refine take_en ht hb.newN (by omega) (by omega) (by omega) fun r s1 a1 a2 b1 k1 n1 => ?_
  have ra : 1 + r ≤ 1000000 ∧ (1 + r).natAbs < 4611686018427387904 := by omega
  have rl : (1 + r).toNat < line := by
    have : (1 + r).toNat ≤ 1000 := by omega
    exact Nat.lt_of_le_of_lt this (by decide)
  simp [ra, rl]
  refine en_turns (fun i acc s => ∃ left : List D, s.get st.next = some (.lst left) ∧ (acc ++ left).Perm vs ∧ acc.length = i ∧ Bx s (k + 1 + i) ∧ s.next = st.next + 1 ∧ ∀ m, 2 ≤ m → m < st.next → s.get m = st.get m) 0 []
    ⟨vs, ?_, List.Perm.refl _, rfl, b1, by rw [n1, new_next], fun m h3 h4 => ?_⟩ (fun j d acc s ed h => ?_) fun us s h => ?_
  · rw [k1.get _ two (by rw [new_next]; omega)]; simp
  · rw [k1.get m h3 (by rw [new_next]; omega), new_get_ne (by omega)]
  · obtain ⟨left, g, pm, hl, bx, nx, kp⟩ := h
    rw [Nat.zero_add] at hl bx ⊢
    have hj : j < (1 + r).toNat := by
      have := (List.getElem?_eq_some_iff.mp ed).1
      simpa using this
    have hll : acc.length + left.length = vs.length := by rw [← List.length_append, pm.length_eq]
    simp [tbody, evC, evE, evL, g]
    refine take_en ht bx (by omega) (by omega) (by omega) fun r2 s2 c1 c2 b2 k2 n2 => ?_
    have g2 : s2.get st.next = some (.lst left) := by rw [k2.get _ two (by omega), g]
    have hr : r2.toNat < left.length := by omega
    have c3 : r2 < 4611686018427387904 := by omega
    simp [g2, c1, c3, List.getElem?_eq_getElem hr]
    refine ⟨?_, hl, b2.putN two, by rw [n2, nx], fun m h3 h4 => by rw [if_neg (by omega), k2.get m h3 (by omega)]; exact kp m h3 h4⟩
    refine List.Perm.trans ?_ pm
    exact List.Perm.append_left acc (erase_perm hr)
  · obtain ⟨left, g, pm, hl, bx, nx, kp⟩ := h
    rw [List.nil_append] at pm hl
    simp at hl bx
    exact ⟨by omega, ⟨left, pm⟩, by omega, k + 1 + (1 + r).toNat, by omega, by omega, bx.newN, ⟨by rw [new_next]; omega, fun m h3 h4 => by rw [new_get_ne (by omega)]; exact kp m h3 h4⟩⟩
def dCount (tk : Nat) : Df := ⟨2, 2, [
  .ret (.idx (.lst false [(.cst (.int 1)), (.var 1), (.bi false .min2 [(.var 1), (.bin .add (.bin .div (.bin .mul (.cst (.int 2)) (.var 1)) (.cst (.int 3))) (.cst (.int 1)))]), (.bin .add (.cst (.int 1)) (.call tk [(.var 0), (.var 1)]))]) (.call tk [(.var 0), (.cst (.int 4))]))]⟩
def CountOk (C : Calls) (f : Nat) : Prop := ∀ (st : Store) (k : Nat) (many : Int), Bx st k → k ≤ 15000000 → 1 ≤ many → many ≤ 1000000 →
  En (C f [.ref 1, .int many] st) fun d st' => ∃ (c : Int), d = .int c ∧ 1 ≤ c ∧ c ≤ many ∧ Bx st' (k + 2) ∧ Kp st st' ∧ st'.next = st.next
theorem count_run (ht : TakeOk C tk) (hb : Bx st k) (hk : k ≤ 15000000) {many : Int} (h1 : 1 ≤ many) (h2 : many ≤ 1000000) :
    En (runD C (dCount tk) [.ref 1, .int many] st) fun d st' => ∃ (c : Int), d = .int c ∧ 1 ≤ c ∧ c ≤ many ∧ Bx st' (k + 2) ∧ Kp st st' ∧ st'.next = st.next := by
  refine en_runD rfl ?_
  have l4 : 4 ≤ line := by decide
  simp [dCount, evSs, evS, evE, evL, l4]
  refine take_en ht hb (by omega) (by omega) (by omega) fun r s1 a1 a2 b1 k1 n1 => ?_
  simp [l4]
  refine take_en ht b1 (by omega) (by decide) (by decide) fun r2 s2 c1 c2 b2 k2 n2 => ?_
  have hc : ∃ c : Int, idxD s2 (.lst [.int 1, .int many, .int (if 2 * many / 3 + 1 < many then 2 * many / 3 + 1 else many), .int (1 + r)]) (.int r2) = some (.int c) ∧ 1 ≤ c ∧ c ≤ many := by
    have : r2 = 0 ∨ r2 = 1 ∨ r2 = 2 ∨ r2 = 3 := by omega
    rcases this with rfl | rfl | rfl | rfl
    · exact ⟨_, rfl, by omega, by omega⟩
    · exact ⟨_, rfl, by omega, by omega⟩
    · refine ⟨_, rfl, ?_, ?_⟩ <;> split <;> omega
    · exact ⟨_, rfl, by omega, by omega⟩
  obtain ⟨c, e, q1, q2⟩ := hc
  exact ⟨_, e, c, rfl, q1, q2, b2, k1.trans k2, by rw [n2, n1]⟩
end
/-- a part of a requirement -/
inductive Pt where
  | nm (x : Str)
  | in_ (c : Int) (xs : List Str)
  deriving DecidableEq
def Pt.d : Pt → D
  | .nm x => .str x
  | .in_ c xs => .tup [.int c, .tup (xs.map .str)]
/-- the names in a part, as often as they stand there -/
def Pt.names : Pt → List Str
  | .nm x => [x]
  | .in_ _ xs => xs
def listed (ps : List Pt) : Nat := (ps.map fun p => p.names.length).sum
def dListed : Df := ⟨1, 2, [
  .ret (.bi false .sum [(.comp false (.nm 1) (.var 0) none (.ite (.isi (.var 1) [.str]) (.cst (.int 1)) (.bi false .len [(.idx (.var 1) (.cst (.int 1)))])))])]⟩
theorem intsOf_map : ∀ ns : List Int, intsOf (ns.map D.int) = some ns
  | [] => rfl
  | x :: r => by
    show (intsOf (r.map D.int)).map (x :: ·) = _
    rw [intsOf_map r] <;> rfl
theorem listed_run (C : Calls) {st : Store} {ps : List Pt} (hl : ps.length < line) : runD C dListed [.lst (ps.map Pt.d)] st = ok (.int (listed ps)) st := by
  have ht : turns (tbody C (.nm 1) none (.ite (.isi (.var 1) [.str]) (.cst (.int 1)) (.bi false .len [(.idx (.var 1) (.cst (.int 1)))])) [some (.lst (ps.map Pt.d)), none]) (ps.map Pt.d) st = ok ((ps.map fun p => (p.names.length : Int)).map D.int) st := by
    rw [turns_pure (g := fun d => match d with
      | .str _ => some (.int 1)
      | .tup [_, .tup xs] => some (.int xs.length)
      | _ => none)]
    · congr 1
      clear hl
      induction ps with
      | nil => rfl
      | cons p r ih =>
        rw [List.map_cons, List.filterMap_cons, ih]
        cases p with
        | nm x => rfl
        | in_ c xs => simp [Pt.d, Pt.names]
    · intro x hx
      obtain ⟨p, _, rfl⟩ := List.mem_map.mp hx
      cases p with
      | nm x => simp [tbody, evC, evE, evL, Pt.d, isTys, isTy, Ty.ofStr]
      | in_ c xs => simp [tbody, evC, evE, evL, Pt.d, isTys, isTy, Ty.ofTup, ixN]
  have hs : biF st .sum [.lst ((ps.map fun p => (p.names.length : Int)).map D.int)] = some (.int (listed ps)) := by
    simp only [biF, l_lst, intsOf_map]
    show some (D.int _) = _
    congr 2
    unfold listed
    clear hl ht
    induction ps with
    | nil => rfl
    | cons p r ih => simp only [List.map_cons, List.sum_cons, ih]; omega
  have hl' : ps.length < line := hl
  simp [runD, dListed, evSs, evS, evE, evL, ↓comp_eq, hl', ht, hs, -List.map_map]
end OM
namespace OM
open PySem (Str)
theorem peqL_strs : ∀ xs ys : List Str, peqL (xs.map D.str) (ys.map D.str) = decide (xs = ys)
  | [], [] => rfl
  | [], _ :: _ => rfl
  | _ :: _, [] => rfl
  | x :: xs, y :: ys => by
    show ((x == y) && peqL (xs.map D.str) (ys.map D.str)) = _
    rw [peqL_strs xs ys, Bool.eq_iff_iff]
    simp
theorem peq_pt (p q : Pt) : peq p.d q.d = decide (p = q) := by
  cases p with
  | nm x => cases q with
    | nm y =>
      show (x == y) = _
      rw [Bool.eq_iff_iff]
      simp
    | in_ c xs => rfl
  | in_ c xs => cases q with
    | nm y => rfl
    | in_ e ys =>
      show ((c == e) && (peqL (xs.map D.str) (ys.map D.str) && true)) = _
      rw [peqL_strs, Bool.eq_iff_iff]
      simp
theorem plain_pts : ∀ ps : List Pt, plainL (ps.map Pt.d) = true
  | [] => rfl
  | p :: r => by
    show (plain p.d && plainL _) = true
    rw [plain_pts r]
    cases p with
    | nm x => rfl
    | in_ c xs =>
      show ((true && (plainL (xs.map D.str) && true)) && true) = true
      rw [plain_strs] <;> rfl
theorem dep_pt (p : Pt) : dep p.d ≤ 2 := by
  cases p with
  | nm x => exact Nat.zero_le _
  | in_ c xs =>
    show max 0 (max (depL (xs.map D.str) + 1) 0) + 1 ≤ 2
    rw [dep_strs]
    decide
theorem dep_pts : ∀ ps : List Pt, depL (ps.map Pt.d) ≤ 2
  | [] => Nat.zero_le _
  | p :: r => by
    show max (dep p.d) (depL _) ≤ 2
    exact Nat.max_le.mpr ⟨dep_pt p, dep_pts r⟩
theorem any_pts (p : Pt) : ∀ ps : List Pt, ((ps.map Pt.d).any fun z => peq z p.d) = decide (p ∈ ps)
  | [] => by simp
  | y :: r => by
    rw [List.map_cons, List.any_cons, any_pts p r, peq_pt, Bool.eq_iff_iff]
    simp only [Bool.or_eq_true, decide_eq_true_eq, List.mem_cons]
    exact or_congr_left eq_comm
theorem plain_pt (p : Pt) : plain p.d = true := by
  have := plain_pts [p]
  have h : (plain p.d && true) = true := this
  simpa using h
theorem look_pt {st : Store} (p : Pt) : look st p.d = some p.d := by
  have h := plain_pt p
  cases p with
  | nm x => rfl
  | in_ c xs =>
    show (if plain (Pt.in_ c xs).d then _ else _) = _
    rw [h] <;> rfl
theorem in_pts {st : Store} {n : Nat} {p : Pt} {ps : List Pt} (h : st.get n = some (.lst (ps.map Pt.d))) : inD st p.d (.ref n) = some (decide (p ∈ ps)) := by
  have e1 : look st (.ref n) = some (.lst (ps.map Pt.d)) := by
    simp only [look, h, plain_pts, if_true]
  have e2 : inD st p.d (.ref n) = (if dep p.d ≤ 64 ∧ depL (ps.map Pt.d) < 64 then some ((ps.map Pt.d).any fun z => peq z p.d) else none) := by
    have lp := look_pt (st := st) p
    cases p with
    | nm x =>
      simp only [Pt.d] at lp ⊢
      simp only [inD, h, e1, lp]
      rfl
    | in_ c xs =>
      simp only [Pt.d] at lp ⊢
      simp only [inD, h, e1, lp]
      rfl
  rw [e2]
  show (if dep p.d ≤ 64 ∧ depL (ps.map Pt.d) < 64 then some ((ps.map Pt.d).any fun z => peq z p.d) else none) = _
  have h1 := dep_pt p
  have h2 := dep_pts ps
  rw [if_pos ⟨by omega, by omega⟩, any_pts]
theorem perm_strs {us rest : List D} {ns : List Str} (h : (us ++ rest).Perm (ns.map D.str)) : ∃ xs : List Str, us = xs.map D.str ∧ (∀ x ∈ xs, x ∈ ns) ∧ (ns.Nodup → xs.Nodup) ∧ xs.length ≤ ns.length := by
  have h1 : ∀ u ∈ us, ∃ x, u = .str x ∧ x ∈ ns := fun u hu => by
    have := h.mem_iff.mp (List.mem_append_left rest hu)
    obtain ⟨x, hx, e⟩ := List.mem_map.mp this
    exact ⟨x, e.symm, hx⟩
  have h2 : ∀ us : List D, (∀ u ∈ us, ∃ x, u = .str x ∧ x ∈ ns) → ∃ xs : List Str, us = xs.map D.str ∧ ∀ x ∈ xs, x ∈ ns := fun us => by
    induction us with
    | nil => exact fun _ => ⟨[], rfl, fun x hx => by cases hx⟩
    | cons u r ih =>
      intro hh
      obtain ⟨x, rfl, hx⟩ := hh u (List.mem_cons_self ..)
      obtain ⟨xs, rfl, hxs⟩ := ih fun v hv => hh v (List.mem_cons_of_mem _ hv)
      exact ⟨x :: xs, rfl, fun y hy => (List.mem_cons.mp hy).elim (fun e => e ▸ hx) (hxs y)⟩
  obtain ⟨xs, rfl, hxs⟩ := h2 us h1
  refine ⟨xs, rfl, hxs, fun nd => ?_, ?_⟩
  · have nd2 : (ns.map D.str).Nodup := by
      rw [List.Nodup, List.pairwise_map]
      exact nd.imp fun hne e => hne (by injection e)
    have nd3 := (h.nodup_iff.mpr nd2)
    have nd4 := (List.nodup_append.mp nd3).1
    rw [List.Nodup, List.pairwise_map] at nd4
    exact nd4.imp fun hne e => hne (by rw [e])
  · have := h.length_eq
    simp at this
    omega
/-- a part over the names -/
def PtOk (ns : List Str) : Pt → Prop
  | .nm x => x ∈ ns
  | .in_ c xs => 1 ≤ c ∧ c ≤ xs.length ∧ xs.Nodup ∧ (∀ x ∈ xs, x ∈ ns) ∧ 1 ≤ xs.length ∧ xs.length ≤ 4
theorem listed_perm {ps qs : List Pt} (h : ps.Perm qs) : listed ps = listed qs := by
  unfold listed
  exact (h.map _).sum_nat
theorem listed_nms : ∀ xs : List Str, listed (xs.map Pt.nm) = xs.length
  | [] => rfl
  | x :: r => by
    show 1 + listed (r.map Pt.nm) = r.length + 1
    rw [listed_nms r]
    omega
theorem listed_cons (p : Pt) (ps : List Pt) : listed (p :: ps) = p.names.length + listed ps := rfl
theorem listed_sub : ∀ {qs ps : List Pt}, qs.Sublist ps → listed qs ≤ listed ps
  | _, _, .slnil => Nat.le_refl _
  | _, _, .cons p h => by have := listed_sub h; rw [listed_cons]; omega
  | _, _, .cons_cons p h => by have := listed_sub h; rw [listed_cons, listed_cons]; omega
theorem len_listed {ns : List Str} : ∀ {ps : List Pt}, (∀ p ∈ ps, PtOk ns p) → ps.length ≤ listed ps
  | [], _ => Nat.zero_le _
  | p :: r, h => by
    have h1 := len_listed fun q hq => h q (List.mem_cons_of_mem _ hq)
    have h2 := h p (List.mem_cons_self ..)
    rw [listed_cons]
    cases p with
    | nm x => show r.length + 1 ≤ 1 + listed r; omega
    | in_ c xs =>
      have : 1 ≤ xs.length := h2.2.2.2.2.1
      show r.length + 1 ≤ xs.length + listed r
      omega
def reqBody (tk sm ct ls : Nat) : List Sm := [.asg (.nm 4) (.slc false (.frz (.call sm [(.var 0), (.var 1)])) none (some (.bin .add (.cst (.int 1)) (.call tk [(.var 0), (.cst (.int 4))])))), .asg (.nm 5) (.tup [(.call ct [(.var 0), (.bi false .len [(.var 4)])]), (.bi false .tuple [(.var 4)])]), .ite (.and (.cmp .notin (.var 5) (.var 2)) (.cmp .lt (.pcall ls [(.bin .add (.var 2) (.lst false [(.var 5)]))]) (.cst (.int 13)))) [.ex (.mt .insert (.var 2) [(.call tk [(.var 0), (.bin .add (.bi false .len [(.var 2)]) (.cst (.int 1)))]), (.var 5)])] []]
def dReq (tk sm ct ls : Nat) : Df := ⟨2, 6, [
  .asg (.nm 2) (.call sm [(.var 0), (.var 1)]),
  .forw [3, 4] (.nm 3) (.range (.cst (.int 0)) (.idx (.lst false [(.cst (.int 0)), (.cst (.int 0)), (.cst (.int 1)), (.cst (.int 2)), (.cst (.int 4))]) (.call tk [(.var 0), (.cst (.int 5))]))) (reqBody tk sm ct ls),
  .frz 2,
  .asg (.nm 4) (.comp false (.nm 5) (.var 2) (some (.not (.isi (.var 5) [.str]))) (.var 5)),
  .ite (.and (.cmp .gt (.bi false .len [(.var 4)]) (.cst (.int 0))) (.cmp .eq (.call tk [(.var 0), (.cst (.int 4))]) (.cst (.int 0)))) [.asg (.nm 2) (.var 4)] [],
  .ret (.tup [(.call ct [(.var 0), (.bi false .len [(.var 2)])]), (.bi false .tuple [(.var 2)])])]⟩
theorem some_en {C : Calls} {sm : Nat} (h : SomeOk C sm) {st : Store} {k : Nat} {ns : List Str} (b : Bx st k) (hk : k ≤ 10000000) (h1 : 1 ≤ ns.length) (h2 : ns.length ≤ 20) {K : D → Store → Prop}
    (q : ∀ (r k' : Nat) (xs : List Str) st', st.next ≤ r → r < st'.next → st'.get r = some (.lst (xs.map .str)) → (∀ x ∈ xs, x ∈ ns) → (ns.Nodup → xs.Nodup) → 1 ≤ xs.length → xs.length ≤ ns.length → k ≤ k' → k' ≤ k + 21 → Bx st' k' → Kp st st' → K (.ref r) st') : En (C sm [.ref 1, .lst (ns.map .str)] st) K :=
  En.imp (h st k _ (ns.map .str) b hk (.inl rfl) (by rw [List.length_map]; exact h1) (by rw [List.length_map]; omega)) fun d st' ⟨r, k', us, rest, e, h1, h2, h3, h4, h5, h6, h7, h8, h9⟩ => by
    subst e
    obtain ⟨xs, rfl, z1, z2, z3⟩ := perm_strs h4
    rw [List.length_map] at h5 h7
    exact q r k' xs st' h1 h2 h3 z1 z2 h5 z3 h6 (by omega) h8 h9
theorem count_en {C : Calls} {ct : Nat} (h : CountOk C ct) {st : Store} {k : Nat} {many : Int} (b : Bx st k) (hk : k ≤ 15000000) (h1 : 1 ≤ many) (h2 : many ≤ 1000000) {K : D → Store → Prop}
    (q : ∀ (c : Int) st', 1 ≤ c → c ≤ many → Bx st' (k + 2) → Kp st st' → st'.next = st.next → K (.int c) st') : En (C ct [.ref 1, .int many] st) K :=
  En.imp (h st k many b hk h1 h2) fun d st' ⟨c, e, h1, h2, h3, h4, h5⟩ => by subst e; exact q c st' h1 h2 h3 h4 h5
@[simp] theorem m_insert {st : Store} {n : Nat} {i : Int} {x : D} : mtF st .insert (.ref n) [.int i, x] = match st.get n with
    | some (.lst xs) => if 0 ≤ i ∧ i ≤ xs.length ∧ xs.length < line then some (.non, st.put n (some (.lst (xs.take i.toNat ++ x :: xs.drop i.toNat)))) else none
    | _ => none := rfl
theorem perm_mid {α : Type} (ps : List α) (p : α) (i : Nat) : (ps.take i ++ p :: ps.drop i).Perm (p :: ps) := by
  have h : (ps.take i ++ p :: ps.drop i).Perm (p :: (ps.take i ++ ps.drop i)) := List.perm_middle
  rwa [List.take_append_drop] at h
def ListedOk (C : Calls) (ls : Nat) : Prop := ∀ (ps : List Pt), ps.length ≤ 1000 → Pc C ls [.lst (ps.map Pt.d)] (.int (listed ps))
theorem cut_take {α : Type} (xs : List α) (v : Int) (h : 0 ≤ v) : cut xs none (some v) = xs.take (min v.toNat xs.length) := by
  show (xs.drop 0).take ((if v < 0 then _ else min v.toNat xs.length) - 0) = _
  rw [if_neg (by omega)]
  rfl
section
variable {C : Calls} {tk sm ct ls : Nat} {st : Store} {k : Nat}
theorem req_step (ht : TakeOk C tk) (hs : SomeOk C sm) (hc : CountOk C ct) (hl : ListedOk C ls) {n1 : Nat} {ns : List Str} {ps : List Pt} {a b c : Option D} {v : D} (l1 : 1 ≤ ns.length) (l2 : ns.length ≤ 20) (nd : ns.Nodup) (h2 : 2 ≤ n1) (hn : n1 < st.next) (hb : Bx st k) (hk : k ≤ 9000000) (hg : st.get n1 = some (.lst (ps.map Pt.d))) (hp : ∀ p ∈ ps, PtOk ns p) (hpn : ps.Nodup) (hpl : listed ps ≤ 20) {N : Fr → Store → Prop}
    (q : ∀ a b c st' ps' k', 1 ≤ ps'.length ∨ ps' = ps → (∀ p ∈ ps', PtOk ns p) → ps'.Nodup → (listed ps' ≤ 12 ∨ ps' = ps) → k ≤ k' → k' ≤ k + 30 → Bx st' k' → st.next ≤ st'.next → st'.get n1 = some (.lst (ps'.map Pt.d)) → (∀ m, 2 ≤ m → m < st.next → m ≠ n1 → st'.get m = st.get m) → N [some (.ref 1), some (.lst (ns.map .str)), some (.ref n1), a, b, c] st') {R : D → Store → Prop} {B Ct : Fr → Store → Prop} :
    WS (fbody C (.nm 3) (reqBody tk sm ct ls) v [some (.ref 1), some (.lst (ns.map .str)), some (.ref n1), a, b, c] st) N R B Ct := by
  simp [fbody, reqBody, evSs, evS, evE, evL, evO]
  refine some_en hs hb (by omega) l1 l2 fun r k1 xs s1 r1 r2 g1 x1 x2 x3 x4 q1 q2 b1 kp1 => ?_
  have two := hb.two
  simp only [g1, en_ok]
  have b1' : Bx (s1.put r none) k1 := b1.putN (by omega)
  have kp1' : Kp st (s1.put r none) := ⟨by rw [put_next]; exact kp1.next, fun m h7 h8 => by rw [put_get_if, if_neg (by omega)]; exact kp1.get m h7 h8⟩
  refine take_en ht b1' (by omega) (by decide) (by decide) fun t s2 t1 t2 b2 kp2 n2 => ?_
  rw [put_next] at n2
  have hslc : slcD s2 (.lst (xs.map .str)) none (some (1 + t)) = some (.lst ((xs.take (min (1 + t).toNat xs.length)).map .str)) := by
    show some (D.lst (cut (xs.map D.str) none (some (1 + t)))) = _
    rw [cut_take _ _ (by omega), List.length_map, List.map_take]
  simp only [b_add, Option.some.injEq, exists_eq_left', en_ok, en_bind, en_lift, en_mkf]
  refine ⟨_, hslc, ?_⟩
  generalize hys : xs.take (min (1 + t).toNat xs.length) = ys
  have y1 : 1 ≤ ys.length ∧ ys.length ≤ 4 := by rw [← hys, List.length_take]; omega
  have y2 : ∀ y ∈ ys, y ∈ ns := fun y hy => x1 y (by rw [← hys] at hy; exact List.mem_of_mem_take hy)
  have y3 : ys.Nodup := by rw [← hys]; exact (x2 nd).sublist (List.take_sublist _ _)
  simp
  refine count_en hc b2 (by omega) (by omega) (by omega) fun cc s3 c1 c2 b3 kp3 n3 => ?_
  have g3 : s3.get n1 = some (.lst (ps.map Pt.d)) := by rw [kp3.get n1 h2 (by omega), kp2.get n1 h2 (by rw [put_next]; omega), kp1'.get n1 h2 hn, hg]
  have lt : 2 ≤ line := by decide
  have hin := in_pts (p := .in_ cc ys) g3
  have pk : PtOk ns (.in_ cc ys) := ⟨c1, c2, y3, y2, y1.1, y1.2⟩
  have kp : Kp st s3 := (kp1'.trans kp2).trans kp3
  have ll := len_listed hp
  have lc : ps.length + 1 ≤ line := by
    have : ps.length + 1 ≤ 1000 := by omega
    exact Nat.le_trans this (by decide)
  have cat : binop s3 .add (.ref n1) (.lst [Pt.d (.in_ cc ys)]) = some (.lst ((ps ++ [Pt.in_ cc ys]).map Pt.d)) := by
    rw [b_add_of (l_ref g3) l_lst, List.length_map, if_pos (by simpa using lc), List.map_append] <;> rfl
  have hls := hl (ps ++ [Pt.in_ cc ys]) (by rw [List.length_append]; show ps.length + 1 ≤ 1000; omega) s3
  have stop : N [some (.ref 1), some (.lst (ns.map .str)), some (.ref n1), some v, some (.lst (ys.map .str)), some (Pt.in_ cc ys).d] s3 :=
    q _ _ _ s3 ps (k1 + 1 + 2) (.inr rfl) hp hpn (.inr rfl) (by omega) (by omega) b3 kp.next g3 fun m h3 h4 _ => kp.get m h3 h4
  have hd : D.tup [.int cc, .tup (ys.map .str)] = (Pt.in_ cc ys).d := rfl
  simp only [lt, if_true, en_ok, hd, hin]
  by_cases hx : Pt.in_ cc ys ∈ ps
  · simp [hx]
    exact stop
  · have l1' : 1 ≤ line := by decide
    simp [hx, l1', cat, hls, -List.map_append]
    by_cases hlt : (listed (ps ++ [Pt.in_ cc ys]) : Int) < 13
    · simp [hlt, g3]
      refine take_en ht b3 (by omega) (by omega) (by omega) fun i s4 i1 i2 b4 kp4 n4 => ?_
      have g4 : s4.get n1 = some (.lst (ps.map Pt.d)) := by rw [kp4.get n1 h2 (by omega), g3]
      have lc' : ps.length < line := lc
      have i3 : i ≤ (ps.length : Int) := by omega
      simp [g4, i1, i3, lc']
      have pm := perm_mid ps (Pt.in_ cc ys) i.toNat
      have e1 : (ps.map Pt.d).take i.toNat ++ (Pt.in_ cc ys).d :: (ps.map Pt.d).drop i.toNat = (ps.take i.toNat ++ Pt.in_ cc ys :: ps.drop i.toNat).map Pt.d := by
        rw [List.map_append, List.map_cons, List.map_take, List.map_drop]
      have e2 : listed (ps ++ [Pt.in_ cc ys]) = listed (ps.take i.toNat ++ Pt.in_ cc ys :: ps.drop i.toNat) := listed_perm ((List.perm_append_comm (l₁ := ps) (l₂ := [Pt.in_ cc ys])).trans pm.symm)
      refine q _ _ _ _ (ps.take i.toNat ++ Pt.in_ cc ys :: ps.drop i.toNat) (k1 + 1 + 2 + 1) (.inl (by rw [pm.length_eq]; simp)) (fun p hp' => ?_) (pm.nodup_iff.mpr (List.nodup_cons.mpr ⟨hx, hpn⟩)) (.inl (by omega)) (by omega) (by omega) (b4.putN h2) (by rw [put_next]; have := kp.next; have := kp4.next; omega) (by rw [put_get_if, if_pos rfl]; simp only [List.map_append, List.map_cons, List.map_take, List.map_drop]) fun m h3 h4 h5 => ?_
      · rcases List.mem_cons.mp (pm.mem_iff.mp hp') with z | z
        · rw [z]; exact pk
        · exact hp p z
      · rw [put_get_if, if_neg h5, kp4.get m h3 (by have := kp.next; omega)]
        exact kp.get m h3 h4
    · simp [hlt]
      exact stop
/-- a requirement over the names -/
structure Rq (ns : List Str) (c : Int) (ps : List Pt) : Prop where
  lo : 1 ≤ c
  hi : c ≤ ps.length
  nd : ps.Nodup
  all : ∀ p ∈ ps, PtOk ns p
  few : listed ps ≤ 20
  few2 : ns.length ≤ 12 → listed ps ≤ 12
def rqD (c : Int) (ps : List Pt) : D := .tup [.int c, .tup (ps.map Pt.d)]
theorem idx5 {st : Store} {r : Int} (h0 : 0 ≤ r) (h1 : r < 5) : ∃ z : Int, idxD st (.lst [.int 0, .int 0, .int 1, .int 2, .int 4]) (.int r) = some (.int z) ∧ 0 ≤ z ∧ z ≤ 4 := by
  have : r = 0 ∨ r = 1 ∨ r = 2 ∨ r = 3 ∨ r = 4 := by omega
  rcases this with rfl | rfl | rfl | rfl | rfl
  · exact ⟨0, rfl, by decide, by decide⟩
  · exact ⟨0, rfl, by decide, by decide⟩
  · exact ⟨1, rfl, by decide, by decide⟩
  · exact ⟨2, rfl, by decide, by decide⟩
  · exact ⟨4, rfl, by decide, by decide⟩
def Pt.isIn : Pt → Bool
  | .nm _ => false
  | .in_ _ _ => true
theorem inner_run {C : Calls} {φ : Fr} {st : Store} {ps : List Pt} (hl : φ.length = 6) : turns (tbody C (.nm 5) (some (.not (.isi (.var 5) [.str]))) (.var 5) φ) (ps.map Pt.d) st = ok ((ps.filter Pt.isIn).map Pt.d) st := by
  rw [turns_pure (g := fun d => match d with
      | .str _ => none
      | d => some d)]
  · congr 1
    induction ps with
    | nil => rfl
    | cons p r ih =>
      rw [List.map_cons, List.filterMap_cons, ih, List.filter_cons]
      cases p <;> rfl
  · intro x hx
    obtain ⟨p, _, rfl⟩ := List.mem_map.mp hx
    obtain ⟨a, b, c, d, e, f, rfl⟩ : ∃ a b c d e f, φ = [a, b, c, d, e, f] := by
      match φ, hl with
      | [a, b, c, d, e, f], _ => exact ⟨a, b, c, d, e, f, rfl⟩
    cases p with
    | nm x => simp [tbody, evC, evE, Pt.d, isTys, isTy, Ty.ofStr]
    | in_ c xs => simp [tbody, evC, evE, Pt.d, isTys, isTy, Ty.ofStr, Ty.ofTup]
def ReqOk (C : Calls) (f : Nat) : Prop := ∀ (st : Store) (k : Nat) (ns : List Str), Bx st k → k ≤ 8000000 → 1 ≤ ns.length → ns.length ≤ 20 → ns.Nodup →
  En (C f [.ref 1, .lst (ns.map .str)] st) fun d st' => ∃ (c : Int) (ps : List Pt) (k' : Nat), d = rqD c ps ∧ Rq ns c ps ∧ k ≤ k' ∧ k' ≤ k + 200 ∧ Bx st' k' ∧ Kp st st'
theorem req_run (ht : TakeOk C tk) (hs : SomeOk C sm) (hc : CountOk C ct) (hl : ListedOk C ls) {ns : List Str} (l1 : 1 ≤ ns.length) (l2 : ns.length ≤ 20) (nd : ns.Nodup) (hb : Bx st k) (hk : k ≤ 8000000) :
    En (runD C (dReq tk sm ct ls) [.ref 1, .lst (ns.map .str)] st) fun d st' => ∃ (c : Int) (ps : List Pt) (k' : Nat), d = rqD c ps ∧ Rq ns c ps ∧ k ≤ k' ∧ k' ≤ k + 200 ∧ Bx st' k' ∧ Kp st st' := by
  refine en_runD rfl ?_
  have l5 : 5 ≤ line := by decide
  have two := hb.two
  simp [dReq, evSs, evS, evE, evL, ↓forw_eq, ↓comp_eq, l5]
  refine some_en hs hb (by omega) l1 l2 fun n1 k1 xs s1 r1 r2 g1 x1 x2 x3 x4 q1 q2 b1 kp1 => ?_
  refine take_en ht b1 (by omega) (by decide) (by decide) fun t s2 t1 t2 b2 kp2 nn2 => ?_
  obtain ⟨z, hz, z0, z4⟩ := idx5 (st := s2) t1 t2
  simp only [hz, Option.some.injEq, exists_eq_left']
  have c1 : z ≤ 1000000 ∧ z.natAbs < 4611686018427387904 := by omega
  simp [c1]
  have g2 : s2.get n1 = some (.lst (xs.map .str)) := by rw [kp2.get n1 (by omega) r2, g1]
  have hxs : xs.map D.str = (xs.map Pt.nm).map Pt.d := by rw [List.map_map] <;> rfl
  rw [hxs] at g2
  have kp0 := kp1.trans kp2
  refine ws_forW2 (fun i φ s => ∃ (a b c : Option D) (ps : List Pt) (k' : Nat), φ = [some (.ref 1), some (.lst (ns.map .str)), some (.ref n1), a, b, c] ∧ 1 ≤ ps.length ∧ (∀ p ∈ ps, PtOk ns p) ∧ ps.Nodup ∧ listed ps ≤ 20 ∧ (ns.length ≤ 12 → listed ps ≤ 12) ∧ k ≤ k' ∧ k' ≤ k1 + 1 + 30 * i ∧ Bx s k' ∧ n1 < s.next ∧ s.get n1 = some (.lst (ps.map Pt.d)) ∧ Kp st s) (by
      rintro i φ s ⟨a, b, c, ps, k', rfl, r⟩
      exact ⟨none, none, c, ps, k', rfl, r⟩) 0
    ⟨none, none, none, xs.map Pt.nm, k1 + 1, rfl, by simpa using x3, fun p hp => ?_, ?_, by rw [listed_nms]; omega, fun h => by rw [listed_nms]; omega, by omega, by omega, b2, by omega, g2, kp0⟩ (fun j d φ s ed h => ?_) fun φ s h => ?_
  · obtain ⟨x, hx, rfl⟩ := List.mem_map.mp hp
    exact x1 x hx
  · rw [List.Nodup, List.pairwise_map]
    exact (x2 nd).imp fun hne e => hne (by injection e)
  · obtain ⟨a, b, c, ps, k', rfl, h1, h2, h3, h4, h4', h5, h6, bx, hn, g, kp⟩ := h
    have hj : j < z.toNat := by
      have := (List.getElem?_eq_some_iff.mp ed).1
      simpa using this
    refine req_step ht hs hc hl l1 l2 nd (by omega) hn bx (by omega) g h2 h3 h4 fun a b c s' ps' k2 w1 w2 w3 w4 w5 w6 b' w7 g' w8 => ?_
    refine ⟨a, b, c, ps', k2, rfl, ?_, w2, w3, ?_, fun h => ?_, by omega, by omega, b', by omega, g', ⟨by have := kp.next; omega, fun m h7 h8 => by rw [w8 m h7 (by have := kp.next; omega) (by omega)]; exact kp.get m h7 h8⟩⟩
    · rcases w1 with w | w
      · exact w
      · rw [w]; exact h1
    · rcases w4 with w | w
      · omega
      · rw [w]; exact h4
    · rcases w4 with w | w
      · exact w
      · rw [w]; exact h4' h
  · obtain ⟨a, b, c, ps, k', rfl, h1, h2, h3, h4, h4', h5, h6, bx, hn, g, kp⟩ := h
    have h6' : k' ≤ k1 + 1 + 120 := by
      simp at h6
      omega
    have ll := len_listed h2
    have lc : ps.length < line := Nat.lt_of_le_of_lt (Nat.le_trans ll h4) (by decide)
    have bx' : Bx (s.put n1 none) k' := bx.putN (by omega)
    have kp' : Kp st (s.put n1 none) := ⟨by rw [put_next]; exact kp.next, fun m h7 h8 => by rw [put_get_if, if_neg (by omega)]; exact kp.get m h7 h8⟩
    have fin : ∀ (qs : List Pt) (s' : Store) (k2 : Nat), 1 ≤ qs.length → qs.Sublist ps → k ≤ k2 → k2 ≤ k' + 1 → Bx s' k2 → Kp st s' → En (C ct [.ref 1, .int qs.length] s') fun d st' => ∃ (c : Int) (ps : List Pt), D.tup [d, .tup (qs.map Pt.d)] = rqD c ps ∧ Rq ns c ps ∧ ∃ x, k ≤ x ∧ x ≤ k + 200 ∧ Bx st' x ∧ Kp st st' := fun qs s' k2 w1 w2 w3 w4 w5 w6 => by
      have wl := w2.length_le
      refine count_en hc w5 (by omega) (by omega) (by omega) fun cc s3 c1 c2 b3 kp3 n3 => ?_
      have lq := listed_sub w2
      exact ⟨cc, qs, rfl, ⟨c1, c2, h3.sublist w2, fun p hp => h2 p (w2.subset hp), by omega, fun h => by have := h4' h; omega⟩, k2 + 2, by omega, by omega, b3, w6.trans kp3⟩
    have two2 : 2 ≤ line := by decide
    simp [g, ↓comp_eq, lc, inner_run]
    by_cases hq : ∃ x, x ∈ ps ∧ x.isIn = true
    · have hf : 1 ≤ (ps.filter Pt.isIn).length := by
        obtain ⟨x, hx, hx2⟩ := hq
        exact List.length_pos_of_mem (List.mem_filter.mpr ⟨hx, hx2⟩)
      simp [hq]
      refine take_en ht bx' (by omega) (by decide) (by decide) fun t s3 t1 t2 b3 kp3 n3 => ?_
      by_cases ht0 : t = 0
      · subst ht0
        simp [two2]
        exact fin (ps.filter Pt.isIn) s3 (k' + 1) hf (List.filter_sublist ..) (by omega) (by omega) b3 (kp'.trans kp3)
      · simp [ht0, two2]
        exact fin ps s3 (k' + 1) h1 (List.Sublist.refl _) (by omega) (by omega) b3 (kp'.trans kp3)
    · simp [hq, two2]
      exact fin ps (s.put n1 none) k' h1 (List.Sublist.refl _) (by omega) (by omega) bx' kp'
end
end OM
namespace OM
open PySem (Str)
def satP (S : Str → Bool) : Pt → Bool
  | .nm x => S x
  | .in_ c xs => decide (c ≤ ((xs.filter S).length : Int))
def satR (S : Str → Bool) (c : Int) (ps : List Pt) : Bool := decide (c ≤ ((ps.filter (satP S)).length : Int))
/-- a set of nodes, as it is passed: list or tuple -/
def IsSet (d : D) (l : List Str) : Prop := d = .lst (l.map .str) ∨ d = .tup (l.map .str)
theorem IsSet.mem {d : D} {l : List Str} (h : IsSet d l) (st : Store) (x : Str) : inD st (.str x) d = some (decide (x ∈ l)) := by
  rcases h with rfl | rfl
  · exact in_lst
  · exact in_tup
section
variable {C : Calls} {sf : Nat} {st : Store} {nd : D} {l : List Str}
theorem nms_map (xs : List Str) : (xs.map Pt.nm).map Pt.d = xs.map D.str := by rw [List.map_map] <;> rfl
end
/-- not too long -/
structure Fit (ps : List Pt) : Prop where
  len : ps.length ≤ 1000
  inn : ∀ e xs, Pt.in_ e xs ∈ ps → xs.length ≤ 1000
theorem Rq.fit {ns : List Str} {c : Int} {ps : List Pt} (h : Rq ns c ps) : Fit ps := ⟨by have := len_listed h.all; have := h.few; omega, fun e xs hx => by have := (h.all _ hx).2.2.2.2.2; omega⟩
@[simp] theorem nr_pt (p : Pt) : nr p.d = true := by cases p <;> simp [Pt.d]
@[simp] theorem nrL_pts (ps : List Pt) : nrL (ps.map Pt.d) = true := nrL_map fun p _ => nr_pt p
@[simp] theorem nr_rq (c : Int) (ps : List Pt) : nr (rqD c ps) = true := by simp [rqD]
theorem IsSet.nr {d : D} {l : List Str} (h : IsSet d l) : nr d = true := by rcases h with rfl | rfl <;> simp
def flat (ps : List Pt) : List Str := ps.flatMap Pt.names
theorem flat_len (ps : List Pt) : (flat ps).length = listed ps := by
  unfold flat listed
  rw [List.length_flatMap]
theorem flat_snoc (ps : List Pt) (p : Pt) : flat (ps ++ [p]) = flat ps ++ p.names := by
  unfold flat
  rw [List.flatMap_append]
  simp
def dListedNames : Df := ⟨1, 3, [
  .asg (.nm 1) (.lst true []),
  .forw [2] (.nm 2) (.idx (.var 0) (.cst (.int 1))) [.ex (.mt .extend (.var 1) [(.ite (.isi (.var 2) [.str]) (.lst false [(.var 2)]) (.idx (.var 2) (.cst (.int 1))))])],
  .frz 1,
  .ret (.var 1)]⟩
def dLawNamesIn : Df := ⟨1, 3, [
  .asg (.nm 1) (.lst true []),
  .forw [2] (.nm 2) (.idx (.var 0) (.cst (.int 1))) [.ex (.mt .extend (.var 1) [(.ite (.isi (.var 2) [.str]) (.lst false [(.var 2)]) (.bi false .list [(.idx (.var 2) (.cst (.int 1)))]))])],
  .frz 1,
  .ret (.var 1)]⟩
@[simp] theorem m_extend {st : Store} {n : Nat} {a : D} : mtF st .extend (.ref n) [a] = match st.get n, seqOf st a with
    | some (.lst xs), some ys => if xs.length + ys.length ≤ line then some (.non, st.put n (some (.lst (xs ++ ys)))) else none
    | _, _ => none := rfl
section
variable {C : Calls}
theorem names_gen {e : Ex} {c : D} {ps : List Pt} (hl : listed ps ≤ 1000) (he : ∀ (φ : Fr) (s : Store) (p : Pt), φ[2]? = some (some p.d) → evE C e φ s = ok (.lst (p.names.map .str)) s ∨ evE C e φ s = ok (.tup (p.names.map .str)) s) :
    En (runD C ⟨1, 3, [.asg (.nm 1) (.lst true []), .forw [2] (.nm 2) (.idx (.var 0) (.cst (.int 1))) [.ex (.mt .extend (.var 1) [e])], .frz 1, .ret (.var 1)]⟩ [.tup [c, .tup (ps.map Pt.d)]] st0) fun d _ => d = .lst ((flat ps).map .str) := by
  refine en_runD rfl ?_
  have l0 : 0 ≤ line := Nat.zero_le _
  simp [evSs, evS, evE, evL, ↓forw_eq, l0, ixN]
  refine ws_forW2 (fun i φ s => ∃ a, φ = [some (.tup [c, .tup (ps.map Pt.d)]), some (.ref 0), a] ∧ s.get 0 = some (.lst ((flat (ps.take i)).map .str))) (by
    rintro i φ s ⟨a, rfl, r⟩
    exact ⟨none, rfl, r⟩) 0 ⟨none, rfl, by simp [flat, st0, Store.new]⟩ (fun j d φ s ed h => ?_) fun φ s h => ?_
  · obtain ⟨a, rfl, g⟩ := h
    rw [Nat.zero_add] at g ⊢
    rw [List.getElem?_map] at ed
    cases ep : ps[j]? with
    | none => rw [ep] at ed; cases ed
    | some p =>
      rw [ep] at ed
      have ed' : p.d = d := Option.some.inj ed
      subst ed'
      have hj := (List.getElem?_eq_some_iff.mp ep).1
      have hp : ps[j] = p := (List.getElem?_eq_some_iff.mp ep).2
      have hf : flat (ps.take (j + 1)) = flat (ps.take j) ++ p.names := by rw [List.take_succ_eq_append_getElem hj, hp, flat_snoc]
      have hll : (flat (ps.take j)).length + p.names.length ≤ line := by
        have h1 : (flat (ps.take (j + 1))).length ≤ (flat ps).length := by
          rw [flat_len, flat_len]
          exact listed_sub (List.take_sublist _ _)
        rw [hf, List.length_append, flat_len ps] at h1
        exact Nat.le_trans (Nat.le_trans h1 hl) (by decide)
      rcases he [some (.tup [c, .tup (ps.map Pt.d)]), some (.ref 0), some p.d] s p rfl with h | h
      · simp [fbody, evSs, evS, evE, evL, h, g, hll, hf]
      · simp [fbody, evSs, evS, evE, evL, h, g, hll, hf]
  · obtain ⟨a, rfl, g⟩ := h
    simp at g
    simp [g]
end
/-- f lists the names -/
def ListNmOk (C : Calls) (f : Nat) : Prop := ∀ (c : Int) (ps : List Pt), listed ps ≤ 1000 → Pc C f [rqD c ps] (.lst ((flat ps).map .str))
theorem listedNames_ok {P : Defs} {n f : Nat} (hf : P[f]? = some dListedNames) : ListNmOk (callN P (n + 1)) f := fun c ps hl => Pc.run hf (names_gen hl fun φ s p h => by
    have l1 : 1 ≤ line := by decide
    cases p with
    | nm x => left; simp [evE, evL, h, Pt.d, isTys, isTy, Ty.ofStr, Pt.names, l1]
    | in_ e xs => right; simp [evE, evL, h, Pt.d, isTys, isTy, Ty.ofTup, Pt.names, ixN]) (by simp) (by simp)
theorem lawNamesIn_ok {P : Defs} {n f : Nat} (hf : P[f]? = some dLawNamesIn) : ListNmOk (callN P (n + 1)) f := fun c ps hl => Pc.run hf (names_gen hl fun φ s p h => by
    have l1 : 1 ≤ line := by decide
    cases p with
    | nm x => left; simp [evE, evL, h, Pt.d, isTys, isTy, Ty.ofStr, Pt.names, l1]
    | in_ e xs => left; simp [evE, evL, h, Pt.d, isTys, isTy, Ty.ofTup, Pt.names, ixN]) (by simp) (by simp)
theorem dedup_mem : ∀ (xs acc : List Str) (x : Str), x ∈ dedup acc xs ↔ x ∈ acc ∨ x ∈ xs
  | [], acc, x => by simp [dedup]
  | y :: r, acc, x => by
    unfold dedup
    split
    · rename_i h
      rw [dedup_mem r acc x, List.mem_cons]
      constructor
      · rintro (z | z)
        · exact .inl z
        · exact .inr (.inr z)
      · rintro (z | z | z)
        · exact .inl z
        · exact .inl (z ▸ h)
        · exact .inr z
    · rw [dedup_mem r (acc ++ [y]) x, List.mem_append, List.mem_singleton, List.mem_cons]
      constructor
      · rintro ((z | z) | z)
        · exact .inl z
        · exact .inr (.inl z)
        · exact .inr (.inr z)
      · rintro (z | z | z)
        · exact .inl (.inl z)
        · exact .inl (.inr z)
        · exact .inr z
theorem dedup_nodup : ∀ (xs acc : List Str), acc.Nodup → (dedup acc xs).Nodup
  | [], acc, h => by simpa [dedup] using h
  | y :: r, acc, h => by
    unfold dedup
    split
    · exact dedup_nodup r acc h
    · rename_i hy
      refine dedup_nodup r _ ?_
      rw [List.nodup_append]
      refine ⟨h, by simp, fun a ha b hb => ?_⟩
      have : b = y := by simpa using hb
      rw [this]
      exact fun e => hy (e ▸ ha)
theorem dedup_len : ∀ (xs acc : List Str), (dedup acc xs).length ≤ acc.length + xs.length
  | [], acc => by simp [dedup]
  | y :: r, acc => by
    unfold dedup
    split
    · have := dedup_len r acc
      simp
      omega
    · have := dedup_len r (acc ++ [y])
      simp at this ⊢
      omega
def nodeSet (l : List Str) : List Str := sortT (dedup [] l)
theorem sortT_mem {l : List Str} {x : Str} : x ∈ sortT l ↔ x ∈ l := (List.mergeSort_perm l leT).mem_iff
theorem sortT_len {l : List Str} : (sortT l).length = l.length := (List.mergeSort_perm l leT).length_eq
theorem sortT_nodup {l : List Str} : (sortT l).Nodup ↔ l.Nodup := (List.mergeSort_perm l leT).nodup_iff
theorem nodeSet_mem {l : List Str} {x : Str} : x ∈ nodeSet l ↔ x ∈ l := by
  unfold nodeSet
  rw [sortT_mem, dedup_mem]
  simp
theorem nodeSet_nodup (l : List Str) : (nodeSet l).Nodup := by
  unfold nodeSet
  rw [sortT_nodup]
  exact dedup_nodup l [] .nil
theorem nodeSet_len (l : List Str) : (nodeSet l).length ≤ l.length := by
  unfold nodeSet
  rw [sortT_len]
  have := dedup_len l []
  simpa using this
theorem sortset_run {st : Store} {l : List Str} (h : l.length < 64) : biF st .sortset [.lst (l.map .str)] = some (.lst ((nodeSet l).map .str)) := by
  simp only [biF, s_lst, strsOf_map, if_pos h]
  rfl
theorem sortset_tup {st : Store} {l : List Str} (h : l.length < 64) : biF st .sortset [.tup (l.map .str)] = some (.lst ((nodeSet l).map .str)) := by
  simp only [biF, s_tup, strsOf_map, if_pos h]
  rfl
theorem sortset_set {st : Store} {d : D} {l : List Str} (hd : IsSet d l) (h : l.length < 64) : biF st .sortset [d] = some (.lst ((nodeSet l).map .str)) := by
  rcases hd with rfl | rfl
  · exact sortset_run h
  · exact sortset_tup h
theorem lenset_set {st : Store} {d : D} {l : List Str} (hd : IsSet d l) (h : l.length < 64) : biF st .lenset [d] = some (.int (nodeSet l).length) := by
  have e : (nodeSet l).length = (dedup [] l).length := sortT_len
  rcases hd with rfl | rfl
  · simp only [biF, s_lst, strsOf_map, if_pos h, e]
  · simp only [biF, s_tup, strsOf_map, if_pos h, e]
def dNodeSet : Df := ⟨1, 1, [
  .ret (.bi false .tuple [(.bi false .sortset [(.var 0)])])]⟩
def NodeSetOk (C : Calls) (f : Nat) : Prop := ∀ (d : D) (l : List Str), IsSet d l → l.length < 64 → Pc C f [d] (.tup ((nodeSet l).map .str))
theorem nodeSet_ok {P : Defs} {n f : Nat} (hf : P[f]? = some dNodeSet) : NodeSetOk (callN P (n + 1)) f := fun d l hd hl => Pc.run hf (by
  refine en_runD rfl ?_
  simp [dNodeSet, evSs, evS, evE, evL, sortset_set hd hl]) (by simp [hd.nr]) (by simp)
def dNamesIn (ns ln : Nat) : Df := ⟨1, 1, [
  .ret (.pcall ns [(.pcall ln [(.var 0)])])]⟩
def NamesInOk (C : Calls) (f : Nat) : Prop := ∀ (c : Int) (ps : List Pt), listed ps < 64 → Pc C f [rqD c ps] (.tup ((nodeSet (flat ps)).map .str))
theorem namesIn_ok {P : Defs} {n f ns ln : Nat} (hf : P[f]? = some (dNamesIn ns ln)) (h1 : NodeSetOk (callN P n) ns) (h2 : ListNmOk (callN P n) ln) : NamesInOk (callN P (n + 1)) f := fun c ps hl => Pc.run hf (by
  refine en_runD rfl ?_
  have a := h2 c ps (by omega)
  have b := h1 _ (flat ps) (.inl rfl) (by rw [flat_len]; exact hl)
  simp [dNamesIn, evSs, evS, evE, evL, a, b]) (by simp) (by simp)
end OM
namespace OM
open PySem (Str)
mutual
theorem peq_refl : ∀ d : D, plain d = true → peq d d = true
  | .non, _ => rfl
  | .bl b, _ => by show (b == b) = true; simp
  | .int i, _ => by show (i == i) = true; simp
  | .str x, _ => by show (x == x) = true; simp
  | .tup xs, h => peqL_refl xs h
  | .lst xs, h => peqL_refl xs h
  | .dct _ _, h => by cases h
  | .obj _ _ _, h => by cases h
  | .ref _, h => by cases h
  | .fn _, h => by cases h
  | .scr _, h => by cases h
theorem peqL_refl : ∀ ds : List D, plainL ds = true → peqL ds ds = true
  | [], _ => rfl
  | d :: r, h => by
    have h' : (plain d && plainL r) = true := h
    rw [Bool.and_eq_true] at h'
    show (peq d d && peqL r r) = true
    rw [peq_refl d h'.1, peqL_refl r h'.2] <;> rfl
end
theorem look_plain {st : Store} {d : D} (h : plain d = true) : look st d = some d := by
  cases d with
  | non => rfl
  | bl => rfl
  | int => rfl
  | str => rfl
  | tup xs =>
    show (if plain (.tup xs) = true then _ else _) = _
    rw [if_pos h]
  | lst xs =>
    show (if plain (.lst xs) = true then _ else _) = _
    rw [if_pos h]
  | _ => cases h
theorem eq_refl {st : Store} {d : D} (h : plain d = true) (hd : dep d ≤ 64) : eqD st d d = some true := by
  unfold eqD
  rw [look_plain h]
  show (if dep d ≤ 64 ∧ dep d ≤ 64 then some (peq d d) else none) = _
  rw [if_pos ⟨hd, hd⟩, peq_refl d h]
theorem plain_rq (c : Int) (ps : List Pt) : plain (rqD c ps) = true := by
  show (true && (plainL (ps.map Pt.d) && true)) = true
  rw [plain_pts] <;> rfl
def dIsInteger : Df := ⟨1, 1, [
  .ret (.and (.isi (.var 0) [.int]) (.not (.isi (.var 0) [.bool])))]⟩
def isInt : D → Bool
  | .int _ => true
  | _ => false
theorem isInteger_run (C : Calls) {st : Store} {d : D} (h : plain d = true) : runD C dIsInteger [d] st = ok (.bl (isInt d)) st := by
  cases d <;> first
    | (simp [runD, dIsInteger, evSs, evS, evE, isTys, isTy, Ty.ofInt, Ty.ofBool, Ty.ofStr, Ty.ofTup, Ty.ofLst, Ty.ofNone, isInt]; done)
    | cases h
/-- a name -/
def isNm : D → Bool
  | .str x => decide (1 ≤ x.length) && (decide (x.length ≤ 8) && x.cps.all fun c => decide (c ∈ letters.cps.toList))
  | _ => false
def dIsName : Df := ⟨1, 2, [
  .ite (.or (.not (.isi (.var 0) [.str])) (.not (.chain .le .le (.cst (.int 1)) (.bi false .len [(.var 0)]) (.cst (.int 8))))) [.ret (.cst (.bl false))] [],
  .ret (.bi false .all [(.comp false (.nm 1) (.var 0) none (.cmp .in_ (.var 1) (.cst (.str "abcdefghijklmnopqrstuvwxyz"))))])]⟩
theorem boolsOf_map : ∀ bs : List Bool, boolsOf (bs.map D.bl) = some bs
  | [] => rfl
  | x :: r => by
    show (boolsOf (r.map D.bl)).map (x :: ·) = _
    rw [boolsOf_map r] <;> rfl
theorem all_run {st : Store} (bs : List Bool) : biF st .all [.lst (bs.map .bl)] = some (.bl (bs.all id)) := by
  simp only [biF, l_lst, boolsOf_map]
  rfl
theorem any_run {st : Store} (bs : List Bool) : biF st .any [.lst (bs.map .bl)] = some (.bl (bs.any id)) := by
  simp only [biF, l_lst, boolsOf_map]
  rfl
/-- a comprehension without a test whose items run purely -/
theorem turns_map {C : Calls} {t : Tg} {e : Ex} {φ : Fr} {st : Store} {g : D → D} {xs : List D} (h : ∀ x ∈ xs, tbody C t none e φ x st = ok (some (g x)) st) : turns (tbody C t none e φ) xs st = ok (xs.map g) st := by
  rw [turns_pure (g := fun x => some (g x)) h]
  congr 1
  exact List.filterMap_eq_map ▸ rfl
theorem isName_run (C : Calls) {st : Store} {d : D} (h : plain d = true) : runD C dIsName [d] st = ok (.bl (isNm d)) st := by
  cases d with
  | str x =>
    by_cases h1 : 1 ≤ x.length
    · by_cases h8 : x.length ≤ 8
      · have hl : (x.cps.toList.map fun c => D.str ⟨#[c]⟩).length < line := by
          rw [List.length_map, Array.length_toList]
          exact Nat.lt_of_le_of_lt h8 (by decide)
        have ht : ∀ φ : Fr, φ.length = 2 → turns (tbody C (.nm 1) none (.cmp .in_ (.var 1) (.cst (.str "abcdefghijklmnopqrstuvwxyz"))) φ) (x.cps.toList.map fun c => D.str ⟨#[c]⟩) st = ok ((x.cps.toList.map fun c => decide (c ∈ letters.cps.toList)).map .bl) st := fun φ hφ => by
          obtain ⟨a, b, rfl⟩ : ∃ a b, φ = [a, b] := by
            match φ, hφ with
            | [a, b], _ => exact ⟨a, b, rfl⟩
          rw [turns_map (g := fun d => match d with
            | .str y => match y.cps.toList with
              | [c] => .bl (decide (c ∈ letters.cps.toList))
              | _ => d
            | _ => d)]
          · congr 1
            rw [List.map_map, List.map_map]
            rfl
          · intro y hy
            obtain ⟨c, _, rfl⟩ := List.mem_map.mp hy
            simp [tbody, evC, evE, inD]
            rfl
        have h1' : (1 : Int) ≤ x.length := by omega
        have h8' : (x.length : Int) ≤ 8 := by omega
        have hit : itemsOf (.str x) = some (x.cps.toList.map fun c => D.str ⟨#[c]⟩) := rfl
        have hl' : x.cps.size < line := by rw [List.length_map, Array.length_toList] at hl; exact hl
        have hl8 : x.cps.size ≤ 8 := h8
        have hall := all_run (st := st) (x.cps.toList.map fun c => decide (c ∈ letters.cps.toList))
        have ht' := ht [some (.str x), none] rfl
        simp [runD, dIsName, evSs, evS, evE, evL, ↓comp_eq, isTys, isTy, Ty.ofStr, h1', h8', hit, hl', ht', -List.map_map, -Array.mem_toList_iff, hall]
        have e8 : decide (x.length ≤ 8) = true := decide_eq_true h8
        have e1 : decide (1 ≤ x.length) = true := decide_eq_true h1
        simp only [isNm, e8, e1, Bool.true_and, List.all_map]
      · have h1' : (1 : Int) ≤ x.length := by omega
        have h8' : ¬ (x.length : Int) ≤ 8 := by omega
        simp [runD, dIsName, evSs, evS, evE, evL, isTys, isTy, Ty.ofStr, h1', h8', isNm, h8]
    · have h1' : ¬ (1 : Int) ≤ x.length := by omega
      simp [runD, dIsName, evSs, evS, evE, evL, isTys, isTy, Ty.ofStr, h1', isNm, h1]
  | non => simp [runD, dIsName, evSs, evS, evE, isTys, isTy, Ty.ofNone, isNm]
  | bl => simp [runD, dIsName, evSs, evS, evE, isTys, isTy, Ty.ofBool, isNm]
  | int => simp [runD, dIsName, evSs, evS, evE, isTys, isTy, Ty.ofInt, isNm]
  | tup => simp [runD, dIsName, evSs, evS, evE, isTys, isTy, Ty.ofTup, isNm]
  | lst => simp [runD, dIsName, evSs, evS, evE, isTys, isTy, Ty.ofLst, isNm]
  | _ => cases h
def dHasDup : Df := ⟨1, 2, [
  .ret (.bi false .any [(.comp false (.nm 1) (.range (.cst (.int 0)) (.bi false .len [(.var 0)])) none (.cmp .in_ (.idx (.var 0) (.var 1)) (.slc false (.var 0) none (some (.var 1)))))])]⟩
def dupAt (xs : List D) (i : Nat) : Bool := match xs[i]? with
  | some x => (xs.take i).any fun z => peq z x
  | none => false
def hasDup (xs : List D) : Bool := (List.range xs.length).any (dupAt xs)
theorem plainL_mem : ∀ {xs : List D} {x : D}, plainL xs = true → x ∈ xs → plain x = true
  | d :: r, x, h, hx => by
    have h' : (plain d && plainL r) = true := h
    rw [Bool.and_eq_true] at h'
    rcases List.mem_cons.mp hx with e | e
    · rw [e]; exact h'.1
    · exact plainL_mem h'.2 e
theorem plainL_take : ∀ {xs : List D} (n : Nat), plainL xs = true → plainL (xs.take n) = true
  | [], n, _ => by rw [List.take_nil] <;> rfl
  | d :: r, 0, _ => rfl
  | d :: r, n + 1, h => by
    have h' : (plain d && plainL r) = true := h
    rw [Bool.and_eq_true] at h'
    show (plain d && plainL (r.take n)) = true
    rw [h'.1, plainL_take n h'.2] <;> rfl
theorem depL_mem : ∀ {xs : List D} {x : D}, x ∈ xs → dep x ≤ depL xs
  | d :: r, x, hx => by
    show dep x ≤ max (dep d) (depL r)
    rcases List.mem_cons.mp hx with e | e
    · rw [e]; exact Nat.le_max_left _ _
    · exact Nat.le_trans (depL_mem e) (Nat.le_max_right _ _)
theorem depL_take : ∀ (xs : List D) (n : Nat), depL (xs.take n) ≤ depL xs
  | [], n => by rw [List.take_nil] <;> exact Nat.le_refl _
  | d :: r, 0 => Nat.zero_le _
  | d :: r, n + 1 => by
    show max (dep d) (depL (r.take n)) ≤ max (dep d) (depL r)
    have := depL_take r n
    omega
theorem in_plain {st : Store} {x : D} {ys : List D} (hx : plain x = true) (hy : plainL ys = true) (dx : dep x ≤ 60) (dy : depL ys ≤ 60) : inD st x (.tup ys) = some (ys.any fun z => peq z x) ∧ inD st x (.lst ys) = some (ys.any fun z => peq z x) := by
  have e1 : look st (.tup ys) = some (.tup ys) := look_plain hy
  have e2 : look st (.lst ys) = some (.lst ys) := look_plain hy
  constructor
  · show (match look st x, look st (.tup ys) with
      | some x, some (.lst ys) => if dep x ≤ 64 ∧ depL ys < 64 then some (ys.any fun z => peq z x) else none
      | some x, some (.tup ys) => if dep x ≤ 64 ∧ depL ys < 64 then some (ys.any fun z => peq z x) else none
      | _, _ => none) = _
    rw [e1, look_plain hx]
    exact if_pos ⟨by omega, by omega⟩
  · show (match look st x, look st (.lst ys) with
      | some x, some (.lst ys) => if dep x ≤ 64 ∧ depL ys < 64 then some (ys.any fun z => peq z x) else none
      | some x, some (.tup ys) => if dep x ≤ 64 ∧ depL ys < 64 then some (ys.any fun z => peq z x) else none
      | _, _ => none) = _
    rw [e2, look_plain hx]
    exact if_pos ⟨by omega, by omega⟩
theorem hasDup_run (C : Calls) {st : Store} {xs : List D} (h : plainL xs = true) (hd : depL xs ≤ 60) (hl : xs.length ≤ 1000000) : runD C dHasDup [.tup xs] st = ok (.bl (hasDup xs)) st := by
  have hl2 : xs.length < line := Nat.lt_of_le_of_lt hl (by decide)
  have ht : turns (tbody C (.nm 1) none (.cmp .in_ (.idx (.var 0) (.var 1)) (.slc false (.var 0) none (some (.var 1)))) [some (.tup xs), none]) ((List.range xs.length).map fun (k : Nat) => .int (k : Int)) st = ok (((List.range xs.length).map (dupAt xs)).map .bl) st := by
    rw [turns_map (g := fun d => match d with
      | .int i => .bl (dupAt xs i.toNat)
      | _ => d)]
    · congr 1
      rw [List.map_map, List.map_map]
      refine List.map_congr_left fun k _ => ?_
      show D.bl (dupAt xs ((k : Int)).toNat) = D.bl (dupAt xs k)
      rw [Int.toNat_natCast]
    · intro y hy
      obtain ⟨k, hk, rfl⟩ := List.mem_map.mp hy
      have hk' : k < xs.length := by simpa using hk
      have hx := List.getElem?_eq_getElem hk'
      have hmem : xs[k] ∈ xs := List.getElem_mem hk'
      have i1 : idxD st (.tup xs) (.int (k : Int)) = some xs[k] := idx_of (k := k) rfl (by omega) hx
      have i2 : slcD st (.tup xs) none (some (k : Int)) = some (.tup (xs.take k)) := by
        show some (D.tup (cut xs none (some (k : Int)))) = _
        rw [cut_take _ _ (by omega)]
        congr 3
        omega
      have i3 := (in_plain (st := st) (x := xs[k]) (ys := xs.take k) (plainL_mem h hmem) (plainL_take k h) (Nat.le_trans (depL_mem hmem) hd) (Nat.le_trans (depL_take xs k) hd)).1
      simp only [tbody, bt_nm, evC, evE, evO, slots_nm, wipeF_cons, wipeF_nil, List.set_cons_succ, List.set_cons_zero, List.getElem?_cons_zero, List.getElem?_cons_succ, bind_ok, i1, i2, lift_ok, mk_f, c_in, i3, Option.map_some, if_true]
      have e : dupAt xs (k : Int).toNat = (xs.take k).any fun z => peq z xs[k] := by
        rw [Int.toNat_natCast]
        unfold dupAt
        rw [hx]
      rw [e]
  have hany := any_run (st := st) ((List.range xs.length).map (dupAt xs))
  have c1 : (xs.length : Int) ≤ 1000000 := by omega
  have c2 : xs.length < 4611686018427387904 := by omega
  have c3 : xs.length ≤ 1000000 := hl
  simp [runD, dHasDup, evSs, evS, evE, evL, ↓comp_eq, c1, c2, c3, hl2, ht, -List.map_map, hany]
  rfl
def dThreshold (nf ii hd : Nat) : Df := ⟨2, 5, [
  .ite (.or (.not (.isi (.var 0) [.tuple])) (.cmp .ne (.bi false .len [(.var 0)]) (.cst (.int 2)))) [.ret (.cst (.bl false))] [],
  .asg (.tp [.nm 2, .nm 3]) (.var 0),
  .ite (.or (.not (.pcall ii [(.var 2)])) (.or (.not (.isi (.var 3) [.tuple])) (.not (.chain .le .le (.cst (.int 1)) (.var 2) (.bi false .len [(.var 3)]))))) [.ret (.cst (.bl false))] [],
  .ret (.and (.bi false .all [(.comp false (.nm 4) (.var 3) none (.callv nf 1 [(.var 4)]))]) (.not (.pcall hd [(.var 3)])))]⟩
/-- a count and its parts -/
def thr (g : D → Bool) : D → Bool
  | .tup [.int c, .tup ps] => decide (1 ≤ c) && (decide (c ≤ ps.length) && (ps.all g && !hasDup ps))
  | _ => false
theorem thr_run {C : Calls} {nf ii hd f : Nat} {st : Store} {g : D → Bool} {d : D} (hf : f < nf) (h : plain d = true) (hdp : dep d ≤ 60) (hii : ∀ d, plain d = true → Pc C ii [d] (.bl (isInt d))) (hhd : ∀ xs, plainL xs = true → depL xs ≤ 60 → xs.length ≤ 1000000 → Pc C hd [.tup xs] (.bl (hasDup xs)))
    (hlen : ∀ c ps, d = .tup [c, .tup ps] → ps.length ≤ 1000000 ∧ ∀ p ∈ ps, C f [p] st = ok (.bl (g p)) st) : runD C (dThreshold nf ii hd) [d, .fn f] st = ok (.bl (thr g d)) st := by
  have tail : ∀ c ps, d = .tup [c, .tup ps] → runD C (dThreshold nf ii hd) [d, .fn f] st = ok (.bl (thr g d)) st := fun c ps e => by
    subst e
    obtain ⟨hl, hg⟩ := hlen c ps rfl
    have h2 : (plain c && ((plainL ps) && true)) = true := h
    rw [Bool.and_eq_true, Bool.and_eq_true] at h2
    have dps : depL ps ≤ 60 := by
      have : max (dep c) (max (depL ps + 1) 0) + 1 ≤ 60 := hdp
      omega
    have i1 := hii c h2.1
    have hl2 : ps.length < line := Nat.lt_of_le_of_lt hl (by decide)
    cases c with
    | int c =>
      by_cases c1 : 1 ≤ c
      · by_cases c2 : c ≤ (ps.length : Int)
        · have ht : turns (tbody C (.nm 4) none (.callv nf 1 [(.var 4)]) [some (.tup [.int c, .tup ps]), some (.fn f), some (.int c), some (.tup ps), none]) ps st = ok ((ps.map g).map .bl) st := by
            rw [turns_map (g := fun p => .bl (g p))]
            · rw [List.map_map] <;> rfl
            · intro p hp
              simp [tbody, evC, evE, evL, hf, hg p hp]
          have hd1 := hhd ps h2.2.1 dps hl
          have ha := all_run (st := st) (ps.map g)
          simp [runD, dThreshold, evSs, evS, evE, evL, ↓comp_eq, isTys, isTy, Ty.ofTup, bindT, bindTs, i1, isInt, c1, c2, hl2, ht, -List.map_map, ha, hd1]
          cases e1 : ps.all g <;> simp [thr, c1, c2, e1]
        · simp [runD, dThreshold, evSs, evS, evE, evL, isTys, isTy, Ty.ofTup, bindT, bindTs, i1, isInt, c1, c2, thr]
      · simp [runD, dThreshold, evSs, evS, evE, evL, isTys, isTy, Ty.ofTup, bindT, bindTs, i1, isInt, c1, thr]
    | _ => first
      | (simp [runD, dThreshold, evSs, evS, evE, evL, isTys, isTy, Ty.ofTup, bindT, bindTs, i1, isInt, thr]; done)
      | cases h2.1
  cases d with
  | tup xs =>
    match xs, h, tail with
    | [], _, _ => simp [runD, dThreshold, evSs, evS, evE, evL, isTys, isTy, Ty.ofTup, thr]
    | [a], _, _ => simp [runD, dThreshold, evSs, evS, evE, evL, isTys, isTy, Ty.ofTup, thr]
    | a :: b :: c :: r, _, _ =>
      have e : ((r.length : Int) + 1 + 1 + 1 == 2) = false := beq_eq_false_iff_ne.mpr (by omega)
      simp [runD, dThreshold, evSs, evS, evE, evL, isTys, isTy, Ty.ofTup, thr, e]
    | [c, y], h, tail =>
      have h2 : (plain c && ((plain y) && true)) = true := h
      rw [Bool.and_eq_true, Bool.and_eq_true] at h2
      have i1 := hii c h2.1
      cases y with
      | tup ps => exact tail c ps rfl
      | non => cases e1 : isInt c <;> simp [runD, dThreshold, evSs, evS, evE, evL, isTys, isTy, Ty.ofTup, Ty.ofNone, bindT, bindTs, i1, e1, thr]
      | bl b => cases e1 : isInt c <;> simp [runD, dThreshold, evSs, evS, evE, evL, isTys, isTy, Ty.ofTup, Ty.ofBool, bindT, bindTs, i1, e1, thr]
      | int b => cases e1 : isInt c <;> simp [runD, dThreshold, evSs, evS, evE, evL, isTys, isTy, Ty.ofTup, Ty.ofInt, bindT, bindTs, i1, e1, thr]
      | str b => cases e1 : isInt c <;> simp [runD, dThreshold, evSs, evS, evE, evL, isTys, isTy, Ty.ofTup, Ty.ofStr, bindT, bindTs, i1, e1, thr]
      | lst b => cases e1 : isInt c <;> simp [runD, dThreshold, evSs, evS, evE, evL, isTys, isTy, Ty.ofTup, Ty.ofLst, bindT, bindTs, i1, e1, thr]
      | _ => cases h2.2.1
  | non => simp [runD, dThreshold, evSs, evS, evE, isTys, isTy, Ty.ofNone, thr]
  | bl => simp [runD, dThreshold, evSs, evS, evE, isTys, isTy, Ty.ofBool, thr]
  | int => simp [runD, dThreshold, evSs, evS, evE, isTys, isTy, Ty.ofInt, thr]
  | str => simp [runD, dThreshold, evSs, evS, evE, isTys, isTy, Ty.ofStr, thr]
  | lst => simp [runD, dThreshold, evSs, evS, evE, isTys, isTy, Ty.ofLst, thr]
  | _ => cases h
mutual
theorem plain_nr : ∀ {d : D}, plain d = true → nr d = true
  | .non, _ => rfl
  | .bl _, _ => rfl
  | .int _, _ => rfl
  | .str _, _ => rfl
  | .tup xs, h => plainL_nr (xs := xs) h
  | .lst xs, h => plainL_nr (xs := xs) h
  | .dct _ _, h => by cases h
  | .obj _ _ _, h => by cases h
  | .ref _, h => by cases h
  | .fn _, h => by cases h
  | .scr _, h => by cases h
theorem plainL_nr : ∀ {xs : List D}, plainL xs = true → nrL xs = true
  | [], _ => rfl
  | x :: xs, h => by
    have h' : (plain x && plainL xs) = true := h
    rw [Bool.and_eq_true] at h'
    show (nr x && nrL xs) = true
    rw [plain_nr h'.1, plainL_nr h'.2] <;> rfl
end
def IsIntOk (C : Calls) (f : Nat) : Prop := ∀ d, plain d = true → Pc C f [d] (.bl (isInt d))
theorem isInt_ok {P : Defs} {n f : Nat} (hf : P[f]? = some dIsInteger) : IsIntOk (callN P (n + 1)) f := fun d h => Pc.run hf ⟨_, _, isInteger_run _ h, rfl⟩ (by simp [plain_nr h]) rfl
def IsNameOk (C : Calls) (f : Nat) : Prop := ∀ d st, plain d = true → C f [d] st = ok (.bl (isNm d)) st
theorem pc_same {C : Calls} {f : Nat} {ds : List D} {d : D} (h : C f ds st0 = ok d st0) (h1 : nrL ds = true) (h2 : nr d = true) : Pc C f ds d := fun st => pure_of ⟨_, _, h, rfl⟩ h1 h2 st
theorem IsNameOk.pc {C : Calls} {f : Nat} (h : IsNameOk C f) {d : D} (hp : plain d = true) : Pc C f [d] (.bl (isNm d)) := pc_same (h d st0 hp) (by simp [plain_nr hp]) rfl
theorem isName_ok {P : Defs} {n f : Nat} (hf : P[f]? = some dIsName) : IsNameOk (callN P (n + 1)) f := fun d st h => by rw [call_run hf]; exact isName_run _ h
def HasDupOk (C : Calls) (f : Nat) : Prop := ∀ xs, plainL xs = true → depL xs ≤ 60 → xs.length ≤ 1000000 → Pc C f [.tup xs] (.bl (hasDup xs))
theorem hasDup_ok {P : Defs} {n f : Nat} (hf : P[f]? = some dHasDup) : HasDupOk (callN P (n + 1)) f := fun xs h h1 h2 => Pc.run hf ⟨_, _, hasDup_run _ h h1 h2, rfl⟩ (by simp [plainL_nr h]) rfl
/-- f says of any datum what g says -/
def SaysOk (C : Calls) (f : Nat) (g : D → Bool) : Prop := ∀ d st, plain d = true → dep d ≤ 60 → (∀ c ps, d = .tup [c, .tup ps] → ps.length ≤ 1000000) → C f [d] st = ok (.bl (g d)) st
/-- is_threshold with f -/
def ThrOk (C : Calls) (t f : Nat) (g : D → Bool) : Prop := ∀ d, plain d = true → dep d ≤ 60 → (∀ c ps, d = .tup [c, .tup ps] → ps.length ≤ 1000000 ∧ ∀ p ∈ ps, ∀ e qs, p = .tup [e, .tup qs] → qs.length ≤ 1000000) → Pc C t [d, .fn f] (.bl (thr g d))
theorem thr_ok {P : Defs} {n t f nf ii hd : Nat} {g : D → Bool} (ht : P[t]? = some (dThreshold nf ii hd)) (hf : f < nf) (hi : IsIntOk (callN P n) ii) (hh : HasDupOk (callN P n) hd) (hg : SaysOk (callN P n) f g) : ThrOk (callN P (n + 1)) t f g := fun d h hd' hl => Pc.run ht ⟨_, _, thr_run hf h hd' hi hh (fun c ps e => by
  subst e
  obtain ⟨h1, h2⟩ := hl c ps rfl
  have h3 : (plain c && ((plainL ps) && true)) = true := h
  rw [Bool.and_eq_true, Bool.and_eq_true] at h3
  have h4 : max (dep c) (max (depL ps + 1) 0) + 1 ≤ 60 := hd'
  exact ⟨h1, fun p hp => hg p st0 (plainL_mem h3.2.1 hp) (by have := depL_mem hp; omega) (h2 p hp)⟩), rfl⟩ (by simp [plain_nr h]) rfl
theorem IsNameOk.says {C : Calls} {f : Nat} (h : IsNameOk C f) : SaysOk C f isNm := fun d st hp _ _ => h d st hp
def dIsSimple (tr nm : Nat) : Df := ⟨1, 1, [
  .ret (.pcall tr [(.var 0), (.cst (.fn nm))])]⟩
def dIsPart (nm sp : Nat) : Df := ⟨1, 1, [
  .ret (.or (.pcall nm [(.var 0)]) (.pcall sp [(.var 0)]))]⟩
/-- is_simple -/
def SimpleOk (C : Calls) (f : Nat) : Prop := ∀ d, plain d = true → dep d ≤ 60 → (∀ c ps, d = .tup [c, .tup ps] → ps.length ≤ 1000000) → (∀ c ps, d = .tup [c, .tup ps] → ∀ p ∈ ps, ∀ e qs, p = .tup [e, .tup qs] → qs.length ≤ 1000000) → Pc C f [d] (.bl (thr isNm d))
theorem simple_ok {P : Defs} {n f tr nm : Nat} (hf : P[f]? = some (dIsSimple tr nm)) (ht : ThrOk (callN P n) tr nm isNm) : SimpleOk (callN P (n + 1)) f := fun d h hd h1 h2 => Pc.run hf (by
  refine en_runD rfl ?_
  have a := ht d h hd fun c ps e => ⟨h1 c ps e, h2 c ps e⟩
  simp [dIsSimple, evSs, evS, evE, evL, a]) (by simp [plain_nr h]) rfl
def isPt (d : D) : Bool := isNm d || thr isNm d
mutual
/-- no list or tuple in it is too long -/
def tame : D → Bool
  | .tup xs => decide (xs.length ≤ 1000000) && tameL xs
  | .lst xs => decide (xs.length ≤ 1000000) && tameL xs
  | _ => true
def tameL : List D → Bool
  | [] => true
  | x :: xs => tame x && tameL xs
end
theorem tameL_mem : ∀ {xs : List D} {x : D}, tameL xs = true → x ∈ xs → tame x = true
  | d :: r, x, h, hx => by
    have h' : (tame d && tameL r) = true := h
    rw [Bool.and_eq_true] at h'
    rcases List.mem_cons.mp hx with e | e
    · rw [e]; exact h'.1
    · exact tameL_mem h'.2 e
theorem tame_pair {c : D} {ps : List D} (h : tame (.tup [c, .tup ps]) = true) : ps.length ≤ 1000000 ∧ tameL ps = true := by
  have h' : (decide (([c, .tup ps] : List D).length ≤ 1000000) && (tame c && ((decide (ps.length ≤ 1000000) && tameL ps) && true))) = true := h
  simp only [Bool.and_eq_true, decide_eq_true_eq] at h'
  exact h'.2.2.1
theorem tame_in {d : D} (h : tame d = true) : (∀ c ps, d = .tup [c, .tup ps] → ps.length ≤ 1000000 ∧ ∀ p ∈ ps, ∀ e qs, p = .tup [e, .tup qs] → qs.length ≤ 1000000) := fun c ps e => by
  subst e
  obtain ⟨a, b⟩ := tame_pair h
  exact ⟨a, fun p hp e qs z => by subst z; exact (tame_pair (tameL_mem b hp)).1⟩
theorem thr_mem {g : D → Bool} {d : D} : thr g d = true → ∃ c ps, d = .tup [.int c, .tup ps] ∧ 1 ≤ c ∧ c ≤ ps.length ∧ (∀ p ∈ ps, g p = true) ∧ hasDup ps = false := fun h => by
  match d, h with
  | .tup [.int c, .tup ps], h =>
    have h' : (decide (1 ≤ c) && (decide (c ≤ ps.length) && (ps.all g && !hasDup ps))) = true := h
    simp only [Bool.and_eq_true, decide_eq_true_eq, Bool.not_eq_true', List.all_eq_true] at h'
    exact ⟨c, ps, rfl, h'.1, h'.2.1, h'.2.2.1, h'.2.2.2⟩
/-- is_part, of data that are not too long -/
def PartOk (C : Calls) (f : Nat) : Prop := ∀ d st, plain d = true → dep d ≤ 60 → tame d = true → C f [d] st = ok (.bl (isPt d)) st
theorem part_ok {P : Defs} {n f nm sp : Nat} (hf : P[f]? = some (dIsPart nm sp)) (h1 : IsNameOk (callN P n) nm) (h2 : SimpleOk (callN P n) sp) : PartOk (callN P (n + 1)) f := fun d st h hd ht => by
  rw [call_run hf]
  have a := h1.pc h
  have b := h2 d h hd (fun c ps e => (tame_in ht c ps e).1) fun c ps e => (tame_in ht c ps e).2
  cases e1 : isNm d <;> simp [runD, dIsPart, evSs, evS, evE, evL, a, b, e1, isPt]
/-- is_threshold with is_part -/
theorem thr_part_ok {P : Defs} {n t f nf ii hd : Nat} (ht : P[t]? = some (dThreshold nf ii hd)) (hf : f < nf) (hi : IsIntOk (callN P n) ii) (hh : HasDupOk (callN P n) hd) (hg : PartOk (callN P n) f) {d : D} (h : plain d = true) (hd' : dep d ≤ 60) (hl : tame d = true) : Pc (callN P (n + 1)) t [d, .fn f] (.bl (thr isPt d)) := Pc.run ht ⟨_, _, thr_run hf h hd' hi hh (fun c ps e => by
  subst e
  obtain ⟨h1, h2⟩ := tame_pair hl
  have h3 : (plain c && ((plainL ps) && true)) = true := h
  rw [Bool.and_eq_true, Bool.and_eq_true] at h3
  have h4 : max (dep c) (max (depL ps + 1) 0) + 1 ≤ 60 := hd'
  exact ⟨h1, fun p hp => hg p st0 (plainL_mem h3.2.1 hp) (by have := depL_mem hp; omega) (tameL_mem h2 hp)⟩), rfl⟩ (by simp [plain_nr h]) rfl
/-- a valid requirement, but for the number of its names -/
structure Vq (c : Int) (ps : List Pt) : Prop where
  lo : 1 ≤ c
  hi : c ≤ ps.length
  nd : ps.Nodup
  nm : ∀ x, Pt.nm x ∈ ps → isNm (.str x) = true
  inn : ∀ e xs, Pt.in_ e xs ∈ ps → 1 ≤ e ∧ e ≤ xs.length ∧ xs.Nodup ∧ ∀ x ∈ xs, isNm (.str x) = true
theorem hasDup_enc {α : Type} [DecidableEq α] (enc : α → D) (he : ∀ a b, peq (enc a) (enc b) = decide (a = b)) (l : List α) : hasDup (l.map enc) = !decide l.Nodup := by
  rw [Bool.eq_iff_iff]
  unfold hasDup
  simp only [List.any_eq_true, List.mem_range, Bool.not_eq_true', decide_eq_false_iff_not, List.length_map]
  unfold List.Nodup
  rw [List.pairwise_iff_getElem]
  constructor
  · rintro ⟨i, hi, h⟩ hn
    unfold dupAt at h
    rw [List.getElem?_map, List.getElem?_eq_getElem hi] at h
    simp only [Option.map_some, List.any_eq_true] at h
    obtain ⟨z, hz, h⟩ := h
    rw [← List.map_take] at hz
    obtain ⟨a, ha, rfl⟩ := List.mem_map.mp hz
    rw [he] at h
    obtain ⟨j, hj, e⟩ := List.mem_iff_getElem.mp ha
    rw [List.getElem_take] at e
    rw [List.length_take] at hj
    exact hn j i (by omega) hi (by omega) (by rw [e]; simpa using h)
  · intro hn
    have : ∃ i j, ∃ (hi : i < l.length) (hj : j < l.length), i < j ∧ l[i] = l[j] := Classical.byContradiction fun z => hn fun i j hi hj hij e => z ⟨i, j, hi, hj, hij, e⟩
    obtain ⟨i, j, hi, hj, hij, e⟩ := this
    refine ⟨j, hj, ?_⟩
    unfold dupAt
    rw [List.getElem?_map, List.getElem?_eq_getElem hj]
    simp only [Option.map_some, List.any_eq_true]
    refine ⟨enc l[i], ?_, by rw [he]; simpa using e⟩
    rw [← List.map_take]
    refine List.mem_map.mpr ⟨l[i], ?_, rfl⟩
    exact List.mem_iff_getElem.mpr ⟨i, by rw [List.length_take]; omega, by rw [List.getElem_take]⟩
theorem peq_strD (a b : Str) : peq (.str a) (.str b) = decide (a = b) := by
  show (a == b) = _
  rw [Bool.eq_iff_iff]
  simp
theorem peq_ptD (a b : Pt) : peq a.d b.d = decide (a = b) := by
  have := any_pts b [a]
  simpa [eq_comm] using this
theorem strs_of_nm : ∀ {ps : List D}, (∀ p ∈ ps, isNm p = true) → ∃ xs : List Str, ps = xs.map .str ∧ ∀ x ∈ xs, isNm (.str x) = true
  | [], _ => ⟨[], rfl, fun _ h => by cases h⟩
  | p :: r, h => by
    obtain ⟨xs, e, h2⟩ := strs_of_nm fun q hq => h q (List.mem_cons_of_mem _ hq)
    have h1 := h p (List.mem_cons_self ..)
    cases p with
    | str x => exact ⟨x :: xs, by rw [e] <;> rfl, fun y hy => (List.mem_cons.mp hy).elim (fun z => z ▸ h1) (h2 y)⟩
    | _ => cases h1
theorem pts_of_pt : ∀ {ps : List D}, (∀ p ∈ ps, isPt p = true) → ∃ qs : List Pt, ps = qs.map Pt.d ∧ (∀ x, Pt.nm x ∈ qs → isNm (.str x) = true) ∧ ∀ e xs, Pt.in_ e xs ∈ qs → 1 ≤ e ∧ e ≤ xs.length ∧ xs.Nodup ∧ ∀ x ∈ xs, isNm (.str x) = true
  | [], _ => ⟨[], rfl, (fun _ h => by cases h), (fun _ _ h => by cases h)⟩
  | p :: r, h => by
    obtain ⟨qs, e, h2, h3⟩ := pts_of_pt fun q hq => h q (List.mem_cons_of_mem _ hq)
    have h1 := h p (List.mem_cons_self ..)
    unfold isPt at h1
    rw [Bool.or_eq_true] at h1
    rcases h1 with h1 | h1
    · cases p with
      | str x =>
        refine ⟨.nm x :: qs, by rw [e] <;> rfl, fun y hy => ?_, fun c xs hy => ?_⟩
        · rcases List.mem_cons.mp hy with z | z
          · cases z; exact h1
          · exact h2 y z
        · rcases List.mem_cons.mp hy with z | z
          · cases z
          · exact h3 c xs z
      | _ => cases h1
    · obtain ⟨c, ps, rfl, a1, a2, a3, a4⟩ := thr_mem h1
      obtain ⟨xs, rfl, hx⟩ := strs_of_nm a3
      rw [hasDup_enc _ peq_strD] at a4
      have nd : xs.Nodup := by simpa using a4
      rw [List.length_map] at a2
      refine ⟨.in_ c xs :: qs, by rw [e] <;> rfl, fun y hy => ?_, fun c' xs' hy => ?_⟩
      · rcases List.mem_cons.mp hy with z | z
        · cases z
        · exact h2 y z
      · rcases List.mem_cons.mp hy with z | z
        · cases z; exact ⟨a1, a2, nd, hx⟩
        · exact h3 c' xs' z
theorem thr_vq {d : D} (h : thr isPt d = true) : ∃ c ps, d = rqD c ps ∧ Vq c ps := by
  obtain ⟨c, ps, rfl, a1, a2, a3, a4⟩ := thr_mem h
  obtain ⟨qs, rfl, h2, h3⟩ := pts_of_pt a3
  rw [hasDup_enc _ peq_ptD] at a4
  rw [List.length_map] at a2
  exact ⟨c, qs, rfl, a1, a2, by simpa using a4, h2, h3⟩
theorem vq_thr {c : Int} {ps : List Pt} (h : Vq c ps) : thr isPt (rqD c ps) = true := by
  have hd : hasDup (ps.map Pt.d) = false := by rw [hasDup_enc _ peq_ptD]; simp [h.nd]
  have ha : (ps.map Pt.d).all isPt = true := by
    rw [List.all_eq_true]
    intro p hp
    obtain ⟨q, hq, rfl⟩ := List.mem_map.mp hp
    cases q with
    | nm x =>
      show (isNm (.str x) || _) = true
      rw [h.nm x hq] <;> rfl
    | in_ e xs =>
      obtain ⟨b1, b2, b3, b4⟩ := h.inn e xs hq
      show (isNm (.tup [.int e, .tup (xs.map .str)]) || (decide (1 ≤ e) && (decide (e ≤ ((xs.map D.str).length : Int)) && ((xs.map D.str).all isNm && !hasDup (xs.map D.str))))) = true
      rw [hasDup_enc _ peq_strD, List.length_map]
      simp only [Bool.or_eq_true, Bool.and_eq_true, decide_eq_true_eq, List.all_eq_true]
      refine .inr ⟨b1, b2, fun p hp => ?_, by simp [b3]⟩
      obtain ⟨x, hx, rfl⟩ := List.mem_map.mp hp
      exact b4 x hx
  show (decide (1 ≤ c) && (decide (c ≤ ((ps.map Pt.d).length : Int)) && ((ps.map Pt.d).all isPt && !hasDup (ps.map Pt.d)))) = true
  rw [hd, ha, List.length_map]
  simp [h.lo, h.hi]
def dIsReq (tr pt ln : Nat) : Df := ⟨1, 2, [
  .ite (.not (.pcall tr [(.var 0), (.cst (.fn pt))])) [.ret (.cst (.bl false))] [],
  .asg (.nm 1) (.pcall ln [(.var 0)]),
  .ret (.and (.cmp .le (.bi false .len [(.var 1)]) (.cst (.int 12))) (.cmp .le (.bi false .lenset [(.var 1)]) (.cst (.int 8))))]⟩
/-- so many names, and different ones -/
def fewB (ps : List Pt) : Bool := decide (listed ps ≤ 12) && decide ((nodeSet (flat ps)).length ≤ 8)
structure IsReqOk (C : Calls) (f : Nat) : Prop where
  yes : ∀ c ps, Vq c ps → listed ps ≤ 1000 → tame (rqD c ps) = true → Pc C f [rqD c ps] (.bl (fewB ps))
  no : ∀ d, plain d = true → dep d ≤ 60 → tame d = true → thr isPt d = false → Pc C f [d] (.bl false)
theorem isReq_ok {P : Defs} {n f tr pt ln : Nat} (hf : P[f]? = some (dIsReq tr pt ln)) (ht : ∀ {d : D}, plain d = true → dep d ≤ 60 → tame d = true → Pc (callN P n) tr [d, .fn pt] (.bl (thr isPt d))) (hl : ListNmOk (callN P n) ln) : IsReqOk (callN P (n + 1)) f where
  yes := fun c ps hv h1 h2 => Pc.run hf (by
    refine en_runD rfl ?_
    have hdp : dep (rqD c ps) ≤ 60 := by
      have := dep_pts ps
      show max 0 (max (depL (ps.map Pt.d) + 1) 0) + 1 ≤ 60
      omega
    have a := ht (plain_rq c ps) hdp h2
    rw [vq_thr hv] at a
    have b := hl c ps h1
    by_cases h12 : listed ps ≤ 12
    · have e : biF st0 .lenset [.lst ((flat ps).map .str)] = some (.int (nodeSet (flat ps)).length) := lenset_set (.inl rfl) (by rw [flat_len]; omega)
      have e12 : (listed ps : Int) ≤ 12 := by omega
      simp [dIsReq, evSs, evS, evE, evL, a, b, flat_len, e12, e, fewB, h12]
      omega
    · have e12 : ¬ (listed ps : Int) ≤ 12 := by omega
      simp [dIsReq, evSs, evS, evE, evL, a, b, flat_len, e12, fewB, h12]) (by simp) rfl
  no := fun d h hd ht' hn => Pc.run hf (by
    refine en_runD rfl ?_
    have a := ht h hd ht'
    rw [hn] at a
    simp [dIsReq, evSs, evS, evE, evL, a]) (by simp [plain_nr h]) rfl
end OM
namespace OM
open PySem (Str)
abbrev Rt := Int × List Pt
def Rt.d (r : Rt) : D := rqD r.1 r.2
abbrev Rows := List (Str × Rt)
def rowD (p : Str × Rt) : D := .tup [.str p.1, Rt.d p.2]
abbrev Rows.ks (rs : Rows) : List Str := rs.map (·.1)
abbrev Rows.vs (rs : Rows) : List D := rs.map fun p => Rt.d p.2
def dctD (rs : Rows) : D := .dct rs.ks rs.vs
def netD (rs : Rows) : D := .obj "Network" ["requirements"] [dctD rs]
@[simp] theorem nrL_comp {β : Type} {g : β → Str} {l : List β} : nrL (l.map (D.str ∘ g)) = true := nrL_map fun _ _ => rfl
@[simp] theorem nr_rt (r : Rt) : nr (Rt.d r) = true := nr_rq _ _
@[simp] theorem nr_row (p : Str × Rt) : nr (rowD p) = true := by simp [rowD]
@[simp] theorem nrL_rows (rs : Rows) : nrL (rs.map rowD) = true := nrL_map fun p _ => nr_row p
@[simp] theorem nrL_vs (rs : Rows) : nrL rs.vs = true := nrL_map fun p _ => nr_rt _
@[simp] theorem nr_dctD (rs : Rows) : nr (dctD rs) = true := by simp [dctD]
@[simp] theorem nr_net (rs : Rows) : nr (netD rs) = true := by simp [netD]
/-- the requirement of a name -/
def reqAt (rs : Rows) (x : Str) : Option Rt := (rs.find? fun p => decide (p.1 = x)).map (·.2)
theorem lookK_rows (x : Str) : ∀ rs : Rows, lookK rs.ks rs.vs x = (reqAt rs x).map Rt.d
  | [] => rfl
  | p :: r => by
    show (if p.1 = x then some (Rt.d p.2) else lookK (Rows.ks r) (Rows.vs r) x) = _
    unfold reqAt
    rw [List.find?_cons]
    by_cases h : p.1 = x
    · simp [h]
    · simp [h, lookK_rows x r, reqAt]
theorem reqAt_mem {rs : Rows} {p : Str × Rt} (nd : rs.ks.Nodup) (h : p ∈ rs) : reqAt rs p.1 = some p.2 := by
  induction rs with
  | nil => cases h
  | cons q r ih =>
    unfold reqAt
    rw [List.find?_cons]
    have nd' := List.nodup_cons.mp (show (q.1 :: Rows.ks r).Nodup from nd)
    rcases List.mem_cons.mp h with e | h
    · subst e; simp
    · have hne : q.1 ≠ p.1 := fun e => nd'.1 (e ▸ List.mem_map_of_mem h)
      simp only [hne, decide_false]
      exact ih nd'.2 h
/-- rows in the order of their names -/
def sortR (rs : Rows) : Rows := rs.mergeSort fun a b => leT a.1 b.1
theorem sortR_perm (rs : Rows) : (sortR rs).Perm rs := List.mergeSort_perm rs _
theorem sortR_ks (rs : Rows) : (sortR rs).ks = sortT rs.ks := List.map_mergeSort fun _ _ _ _ => rfl
theorem isNm_of {x : Str} (h : Nm x) : isNm (.str x) = true := by
  show (decide (1 ≤ x.length) && (decide (x.length ≤ 8) && x.cps.all fun c => decide (c ∈ letters.cps.toList))) = true
  simp only [Bool.and_eq_true, decide_eq_true_eq]
  refine ⟨h.lo, h.hi, ?_⟩
  rw [← Array.all_toList, List.all_eq_true]
  intro c hc
  have := h.let_ c hc
  rw [letters_list]
  have key : ∀ c, 97 ≤ c → c ≤ 122 → c ∈ ([97, 98, 99, 100, 101, 102, 103, 104, 105, 106, 107, 108, 109, 110, 111, 112, 113, 114, 115, 116, 117, 118, 119, 120, 121, 122] : List Nat) := by
    intro c h1 h2
    simp
    omega
  simpa using key c this.1 this.2
theorem Rq.vq {ns : List Str} {c : Int} {ps : List Pt} (h : Rq ns c ps) (hn : ∀ x ∈ ns, Nm x) : Vq c ps where
  lo := h.lo
  hi := h.hi
  nd := h.nd
  nm := fun x hx => isNm_of (hn x (h.all _ hx))
  inn := fun e xs hx => by
    obtain ⟨a, b, c', d, _, _⟩ := h.all _ hx
    exact ⟨a, b, c', fun x hx' => isNm_of (hn x (d x hx'))⟩
theorem Rq.sub {ns : List Str} {c : Int} {ps : List Pt} (h : Rq ns c ps) : ∀ x ∈ flat ps, x ∈ ns := fun x hx => by
  obtain ⟨p, hp, hx⟩ := List.mem_flatMap.mp hx
  have := h.all p hp
  cases p with
  | nm y =>
    have e : x = y := by simpa [Pt.names] using hx
    rw [e]; exact this
  | in_ c xs => exact this.2.2.2.1 x hx
theorem nodup_le {L ns : List Str} (h : L.Nodup) (hs : ∀ x ∈ L, x ∈ ns) : L.length ≤ ns.length := nodup_sub_len h hs
theorem Rq.few_ {ns : List Str} {c : Int} {ps : List Pt} (h : Rq ns c ps) (hl : ns.length ≤ 8) : fewB ps = true := by
  have h1 := h.few2 (by omega)
  have h2 : (nodeSet (flat ps)).length ≤ 8 := Nat.le_trans (nodup_le (nodeSet_nodup _) fun x hx => h.sub x (nodeSet_mem.mp hx)) hl
  simp [fewB, h1, h2]
theorem tameL_map {α : Type} {f : α → D} {l : List α} (h : ∀ a ∈ l, tame (f a) = true) : tameL (l.map f) = true := by
  induction l with
  | nil => rfl
  | cons a r ih =>
    show (tame (f a) && tameL (r.map f)) = true
    rw [h a (List.mem_cons_self ..), ih fun b hb => h b (List.mem_cons_of_mem _ hb)] <;> rfl
theorem Fit.tame {c : Int} {ps : List Pt} (h : Fit ps) : tame (rqD c ps) = true := by
  have one : ∀ p ∈ ps, OM.tame p.d = true := fun p hp => by
    cases p with
    | nm x => rfl
    | in_ e xs =>
      have hl := h.inn e xs hp
      show (decide (([.int e, .tup (xs.map .str)] : List D).length ≤ 1000000) && (true && ((decide ((xs.map D.str).length ≤ 1000000) && tameL (xs.map D.str)) && true))) = true
      rw [tameL_map (fun _ _ => rfl), List.length_map]
      simp
      omega
  show (decide (([.int c, .tup (ps.map Pt.d)] : List D).length ≤ 1000000) && (true && ((decide ((ps.map Pt.d).length ≤ 1000000) && tameL (ps.map Pt.d)) && true))) = true
  rw [tameL_map one, List.length_map]
  have := h.len
  simp
  omega
/-- rows that make a network -/
structure NetRows (rs : Rows) : Prop where
  nd : rs.ks.Nodup
  nm : ∀ x ∈ rs.ks, Nm x
  rq : ∀ p ∈ rs, Rq rs.ks p.2.1 p.2.2
  few : rs.length ≤ 8
section
variable {st : Store} {rs : Rows} {x : Str}
@[simp] theorem obj_net : objOf st (netD rs) = some (("Network" : Str), [("requirements" : Str)], [dctD rs]) := rfl
@[simp] theorem look_reqs {d : D} : lookK [("requirements" : Str)] [d] ("requirements" : Str) = some d := if_pos rfl
@[simp] theorem in_dctD : inD st (.str x) (dctD rs) = some (decide (x ∈ rs.ks)) := rfl
@[simp] theorem items_dctD : itemsOf (dctD rs) = some (rs.ks.map .str) := rfl
theorem idx_dctD {r : Rt} (h : reqAt rs x = some r) : idxD st (dctD rs) (.str x) = some (Rt.d r) := by
  show lookK rs.ks rs.vs x = _
  rw [lookK_rows, h] <;> rfl
@[simp] theorem list_dctD : biF st .list [dctD rs] = some (.lst (rs.ks.map .str)) := rfl
@[simp] theorem tuple_dctD : biF st .tuple [dctD rs] = some (.tup (rs.ks.map .str)) := rfl
@[simp] theorem len_dctD : biF st .len [dctD rs] = some (.int rs.length) := by
  show some (D.int (Rows.ks rs).length) = _
  rw [List.length_map]
end
/-- all names are nodes -/
def CheckOk (C : Calls) (f : Nat) : Prop := ∀ (rs : Rows) (d : D) (l : List Str), IsSet d l → (∀ x ∈ l, x ∈ rs.ks) → Pc C f [netD rs, d] .non
theorem CheckOk.list {C : Calls} {f : Nat} (h : CheckOk C f) {rs : Rows} {l : List Str} (hl : ∀ x ∈ l, x ∈ rs.ks) : Pc C f [netD rs, .lst (l.map .str)] .non := h rs _ l (.inl rfl) hl
end OM
namespace OM
open PySem (Str)
def dNetInit (nm rq ni : Nat) : Df := ⟨2, 6, [
  .asg (.nm 2) (.dnew),
  .forw [4] (.tp [.nm 3, .nm 4]) (.var 1) [.ite (.not (.pcall nm [(.var 3)])) [.raise "InvalidName" ["value"] [(.var 3)]] [], .ite (.cmp .in_ (.var 3) (.var 2)) [.raise "DuplicateNode" ["name"] [(.var 3)]] [], .ite (.not (.pcall rq [(.var 4)])) [.raise "InvalidRequirement" ["name"] [(.var 3)]] [], .put (.var 2) (.var 3) (.var 4)],
  .frz 2,
  .forw [5] (.nm 3) (.var 2) [.forw [5] (.nm 5) (.pcall ni [(.idx (.var 2) (.var 3))]) [.ite (.cmp .notin (.var 5) (.var 2)) [.raise "UnknownNode" ["name"] [(.var 5)]] []]],
  .setf ["Network"] (.var 0) "requirements" (.dcomp (.nm 3) (.bi false .sorted [(.bi false .list [(.var 2)])]) none (.var 3) (.idx (.var 2) (.var 3)))]⟩
theorem sortD_strs (l : List Str) : sortD (l.map .str) = some ((sortT l).map .str) := by
  unfold sortD
  rw [if_pos]
  · congr 1
    exact (List.map_mergeSort (f := D.str) (r := leT) (s := fun a b => !dlt b a) (l := l) fun a _ b _ => by
      show leT a b = !decide (b.cps.toList < a.cps.toList)
      unfold leT
      rw [Bool.eq_iff_iff]
      simp).symm
  · refine ⟨plain_strs l, ?_, ?_, by rw [dep_strs]; decide⟩
    · rw [List.all_eq_true]
      intro x hx
      rw [List.all_eq_true]
      intro y hy
      obtain ⟨a, _, rfl⟩ := List.mem_map.mp hx
      obtain ⟨b, _, rfl⟩ := List.mem_map.mp hy
      rfl
    · unfold srtB
      rw [Bool.or_eq_true]
      right
      rw [List.all_eq_true]
      intro x hx
      obtain ⟨a, _, rfl⟩ := List.mem_map.mp hx
      rfl
theorem sorted_strs {st : Store} {l : List Str} (h : l.length ≤ line) : biF st .sorted [.lst (l.map .str)] = some (.lst ((sortT l).map .str)) := by
  show (match dctOf st (.lst (l.map .str)) with
    | some (ks, _) => if ks.length < 64 then some (D.lst ((sortT ks).map .str)) else none
    | none => match seqOf st (.lst (l.map .str)) with
      | some xs => if xs.length ≤ line then ((sortD xs).orElse fun _ => if xs.length < 2 then some xs else none).map .lst else none
      | none => none) = _
  show (if (l.map D.str).length ≤ line then ((sortD (l.map D.str)).orElse fun _ => if (l.map D.str).length < 2 then some (l.map D.str) else none).map D.lst else none) = _
  rw [List.length_map, if_pos h, sortD_strs] <;> rfl
theorem turnsD_of {α : Type} {body : D → Store → Res (Option (Str × D))} {enc : α → D} {kf : α → Str} {vf : α → D} {st : Store} : ∀ {xs : List α} {ks : List Str} {vs : List D}, (∀ x ∈ xs, body (enc x) st = ok (some (kf x, vf x)) st) → (ks ++ xs.map kf).Nodup → turnsD body (xs.map enc) ks vs st = ok (ks ++ xs.map kf, vs ++ xs.map vf) st
  | [], ks, vs, _, _ => by
    show ok (ks, vs) st = _
    simp
  | x :: r, ks, vs, h, nd => by
    show (body (enc x) st).bind _ = _
    rw [h x (List.mem_cons_self ..), bind_ok]
    have nd' : (ks ++ [kf x] ++ r.map kf).Nodup := by simpa using nd
    have hx : kf x ∉ ks := fun z => (List.nodup_append.mp nd).2.2 _ z _ (List.mem_cons_self ..) rfl
    have e1 : putN ks (kf x) = ks ++ [kf x] := by unfold putN; rw [if_neg hx]
    have e2 : putV ks vs (kf x) (vf x) = vs ++ [vf x] := by unfold putV; rw [if_neg hx]
    show turnsD body (r.map enc) (putN ks (kf x)) (putV ks vs (kf x) (vf x)) st = _
    rw [e1, e2, turnsD_of (fun y hy => h y (List.mem_cons_of_mem _ hy)) nd']
    simp
/-- one turn of a dict's comprehension -/
noncomputable def dbody (C : Calls) (t : Tg) (c : Option Ex) (k v : Ex) (φ : Fr) : D → Store → Res (Option (Str × D)) := fun d st => match bindT st t d (wipeF φ t.slots) with
        | some φ' => (evC C c φ' st).bind fun b st => if b then (evE C k φ' st).bind fun kd st => (evE C v φ' st).bind fun vd st => (lift (asKey kd vd) st).bind fun p st => ok (some p) st else ok none st
        | none => none
theorem dcomp_eq {C : Calls} {t : Tg} {i k v : Ex} {c : Option Ex} {φ : Fr} {st : Store} : evE C (.dcomp t i c k v) φ st = (evE C i φ st).bind fun x st => match itemsOf x with
    | some xs => if xs.length < line then (noX (turnsD (dbody C t c k v φ) xs [] [] st)).bind fun p st => ok (.dct p.1 p.2) st else none
    | none => none := rfl
@[simp] theorem asKey_str {k : Str} {d : D} : asKey (.str k) d = some (k, d) := rfl
@[simp] theorem bt_row {st : Store} {i j : Nat} {p : Str × Rt} {φ : Fr} : bindT st (.tp [.nm i, .nm j]) (rowD p) φ = some ((φ.set i (some (.str p.1))).set j (some (Rt.d p.2))) := rfl
theorem in_dref {st : Store} {n : Nat} {ks : List Str} {vs : List D} {x : Str} (h : st.get n = some (.dct ks vs)) : inD st (.str x) (.ref n) = some (decide (x ∈ ks)) := by
  simp only [inD, h]
theorem put_dref {st : Store} {n : Nat} {ks : List Str} {vs : List D} {x : Str} {d : D} (h : st.get n = some (.dct ks vs)) (hl : ks.length < 4096) : putD st (.ref n) (.str x) d = some (st.put n (some (.dct (putN ks x) (putV ks vs x d)))) := by
  simp only [putD, h, if_pos hl]
end OM
namespace OM
open PySem (Str)
/-- whether the set satisfies what the name requires -/
def satAt (rs : Rows) (l : List Str) (x : Str) : Bool := match reqAt rs x with
  | some r => satR (fun y => decide (y ∈ l)) r.1 r.2
  | none => false
/-- rows whose requirements are not too long -/
def FitR (rs : Rows) : Prop := ∀ p ∈ rs, Fit p.2.2
theorem NetRows.fit {rs : Rows} (h : NetRows rs) : FitR rs := fun p hp => (h.rq p hp).fit
end OM
namespace OM
open PySem (Str)
/-- _law_rows -/
def d_law_rows (c_law_names c_law_take c_law_requirement : Nat) : Df := ⟨2, 9, [
  .asg (.nm 2) (.call c_law_names [(.var 0), (.bin .add (.cst (.int 1)) (.call c_law_take [(.var 0), (.var 1)]))]),
  .asg (.nm 3) (.bi false .tuple [(.slc false (.var 2) none (some (.bi false .max2 [(.cst (.int 1)), (.bin .sub (.bi false .len [(.var 2)]) (.call c_law_take [(.var 0), (.cst (.int 2))]))])))]),
  .asg (.nm 4) (.call c_law_take [(.var 0), (.cst (.int 4))]),
  .asg (.nm 5) (.lst true []),
  .forw [6, 7, 8] (.nm 6) (.range (.cst (.int 0)) (.bi false .len [(.var 2)])) [.asg (.nm 7) (.bi false .tuple [(.slc false (.bin .add (.slc false (.var 2) (some (.var 6)) none) (.slc false (.var 2) none (some (.var 6)))) none (some (.cst (.int 3))))]), .asg (.nm 8) (.lst false [(.tup [(.bin .add (.bin .div (.bin .mul (.cst (.int 2)) (.bi false .len [(.var 3)])) (.cst (.int 3))) (.cst (.int 1))), (.var 3)]), (.tup [(.bin .add (.bin .div (.bi false .len [(.var 3)]) (.cst (.int 2))) (.cst (.int 1))), (.var 3)]), (.tup [(.bi false .min2 [(.cst (.int 2)), (.bi false .len [(.var 7)])]), (.var 7)])]), .ex (.mt .append (.var 5) [(.tup [(.idx (.var 2) (.var 6)), (.idx (.bin .add (.var 8) (.lst false [(.call c_law_requirement [(.var 0), (.var 2)])])) (.var 4))])])],
  .ite (.cmp .eq (.call c_law_take [(.var 0), (.cst (.int 3))]) (.cst (.int 0))) [.asg (.nm 6) (.call c_law_take [(.var 0), (.bi false .len [(.var 2)])]), .put (.var 5) (.var 6) (.tup [(.idx (.var 2) (.var 6)), (.call c_law_requirement [(.var 0), (.var 2)])])] [],
  .frz 5,
  .ret (.var 5)]⟩
end OM
namespace OM
open PySem (Str)
theorem cut_drop {α : Type} (xs : List α) (v : Int) (h : 0 ≤ v) : cut xs (some v) none = xs.drop (min v.toNat xs.length) := by
  show (xs.drop (if v < 0 then _ else min v.toNat xs.length)).take (xs.length - (if v < 0 then _ else min v.toNat xs.length)) = _
  rw [if_neg (by omega), List.take_of_length_le (by rw [List.length_drop]; omega)]
theorem cut_to {α : Type} (xs : List α) {v : Int} (h : 0 ≤ v) : cut xs none (some v) = xs.take v.toNat := by
  rw [cut_take xs v h]
  by_cases hl : v.toNat ≤ xs.length
  · rw [Nat.min_eq_left hl]
  · rw [Nat.min_eq_right (by omega), List.take_length, List.take_of_length_le (by omega)]
theorem ixN_nat {n j : Nat} (h : j < n) : ixN n (j : Int) = some j := by
  unfold ixN
  rw [if_pos (by omega), if_pos (by omega)]
  simp
theorem cut_from {α : Type} (xs : List α) {v : Int} (h : 0 ≤ v) : cut xs (some v) none = xs.drop v.toNat := by
  rw [cut_drop xs v h]
  by_cases hl : v.toNat ≤ xs.length
  · rw [Nat.min_eq_left hl]
  · rw [Nat.min_eq_right (by omega), List.drop_length, List.drop_of_length_le (by omega)]
@[simp] theorem slc_lst {st : Store} {xs : List D} {lo hi : Option Int} : slcD st (.lst xs) lo hi = some (.lst (cut xs lo hi)) := rfl
@[simp] theorem slc_tup {st : Store} {xs : List D} {lo hi : Option Int} : slcD st (.tup xs) lo hi = some (.tup (cut xs lo hi)) := rfl
theorem requirement_en {C : Calls} {f : Nat} (h : ReqOk C f) {st : Store} {k : Nat} {ns : List Str} (b : Bx st k) (hk : k ≤ 8000000) (h1 : 1 ≤ ns.length) (h2 : ns.length ≤ 20) (nd : ns.Nodup) {K : D → Store → Prop}
    (q : ∀ (c : Int) (ps : List Pt) (k' : Nat) st', Rq ns c ps → k ≤ k' → k' ≤ k + 200 → Bx st' k' → Kp st st' → K (Rt.d (c, ps)) st') : En (C f [.ref 1, .lst (ns.map .str)] st) K :=
  En.imp (h st k ns b hk h1 h2 nd) fun d st' ⟨c, ps, k', e, h1, h2, h3, h4, h5⟩ => by subst e; exact q c ps k' st' h1 h2 h3 h4 h5
theorem names_en {C : Calls} {f : Nat} (h : NamesOk C f) {st : Store} {k : Nat} {many : Int} (b : Bx st k) (hk : k ≤ 10000000) (h1 : 0 ≤ many) (h2 : many ≤ 20) {K : D → Store → Prop}
    (q : ∀ (ns : List Str) (k' : Nat) st', (ns.length : Int) = many → ns.Nodup → (∀ x ∈ ns, Nm x) → k ≤ k' → k' ≤ k + 200 → Bx st' k' → Kp st st' → K (.lst (ns.map .str)) st') : En (C f [.ref 1, .int many] st) K :=
  En.imp (h st k many b hk h1 h2) fun d st' ⟨ns, k', e, h1, h2, h3, h4, h5, h6, h7⟩ => by subst e; exact q ns k' st' h1 h2 h3 h4 h5 h6 h7
/-- all of these names, so many -/
theorem rq_all {ns xs : List Str} {c : Int} (h1 : 1 ≤ c) (h2 : c ≤ xs.length) (nd : xs.Nodup) (hs : ∀ x ∈ xs, x ∈ ns) (hl : xs.length ≤ 12) : Rq ns c (xs.map .nm) where
  lo := h1
  hi := by rw [List.length_map]; exact h2
  nd := by
    rw [List.Nodup, List.pairwise_map]
    exact nd.imp fun hne e => hne (by injection e)
  all := fun p hp => by
    obtain ⟨x, hx, rfl⟩ := List.mem_map.mp hp
    exact hs x hx
  few := by rw [listed_nms]; omega
  few2 := fun _ => by rw [listed_nms]; exact hl
/-- rows of a drawn network -/
def DRowsOk (C : Calls) (f : Nat) : Prop := ∀ (st : Store) (k : Nat) (most : Int), Bx st k → k ≤ 5000000 → 1 ≤ most → most ≤ 8 →
  En (C f [.ref 1, .int most] st) fun d st' => ∃ (rs : Rows) (k' : Nat), d = .lst (rs.map rowD) ∧ NetRows rs ∧ 1 ≤ rs.length ∧ (rs.length : Int) ≤ most ∧ k ≤ k' ∧ k' ≤ k + 5000 ∧ Bx st' k' ∧ Kp st st'
theorem rt_all (c : Int) (xs : List Str) : Rt.d (c, xs.map Pt.nm) = .tup [.int c, .tup (xs.map .str)] := by
  show rqD _ _ = _
  unfold rqD
  rw [nms_map]
section
variable {C : Calls} {nm tk rq : Nat} {st : Store} {k : Nat}
theorem row_pick {ns core ring : List Str} {r : Rt} {way : Int} (w1 : 0 ≤ way) (w2 : way < 4) (c1 : 1 ≤ core.length) (c2 : ∀ x ∈ core, x ∈ ns) (c3 : core.Nodup) (c4 : core.length ≤ 8) (r1 : 1 ≤ ring.length) (r2 : ∀ x ∈ ring, x ∈ ns) (r3 : ring.Nodup) (r4 : ring.length ≤ 8) (hr : Rq ns r.1 r.2) (st : Store) :
    ∃ r' : Rt, idxD st (.lst [.tup [.int (2 * (core.length : Int) / 3 + 1), .tup (core.map .str)], .tup [.int ((core.length : Int) / 2 + 1), .tup (core.map .str)], .tup [.int (if (ring.length : Int) < 2 then (ring.length : Int) else 2), .tup (ring.map .str)], Rt.d r]) (.int way) = some (Rt.d r') ∧ Rq ns r'.1 r'.2 := by
  have : way = 0 ∨ way = 1 ∨ way = 2 ∨ way = 3 := by omega
  rcases this with rfl | rfl | rfl | rfl
  · exact ⟨(2 * (core.length : Int) / 3 + 1, core.map .nm), by rw [rt_all]; rfl, rq_all (by omega) (by omega) c3 c2 (by omega)⟩
  · exact ⟨((core.length : Int) / 2 + 1, core.map .nm), by rw [rt_all]; rfl, rq_all (by omega) (by omega) c3 c2 (by omega)⟩
  · exact ⟨(if (ring.length : Int) < 2 then (ring.length : Int) else 2, ring.map .nm), by rw [rt_all]; rfl, rq_all (by split <;> omega) (by split <;> omega) r3 r2 (by omega)⟩
  · exact ⟨r, rfl, hr⟩
theorem drows_run (hn : NamesOk C nm) (ht : TakeOk C tk) (hr : ReqOk C rq) (hb : Bx st k) (hk : k ≤ 5000000) {most : Int} (m1 : 1 ≤ most) (m2 : most ≤ 8) :
    En (runD C (d_law_rows nm tk rq) [.ref 1, .int most] st) fun d st' => ∃ (rs : Rows) (k' : Nat), d = .lst (rs.map rowD) ∧ NetRows rs ∧ 1 ≤ rs.length ∧ (rs.length : Int) ≤ most ∧ k ≤ k' ∧ k' ≤ k + 5000 ∧ Bx st' k' ∧ Kp st st' := by
  refine en_runD rfl ?_
  have two := hb.two
  have l0 : 0 ≤ line := Nat.zero_le _
  have l3 : 3 ≤ line := by decide
  have l2 : 2 ≤ line := by decide
  have l4 : 4 ≤ line := by decide
  have l1 : 1 ≤ line := by decide
  simp [d_law_rows, evSs, evS, evE, evL, evO, ↓forw_eq, l0]
  refine take_en ht hb (by omega) m1 (by omega) fun r0 s0 a1 a2 b0 kp0 n0 => ?_
  simp
  refine names_en hn b0 (by omega) (by omega) (by omega) fun ns k1 s1 hl nd nm' q1 q2 b1 kp1 => ?_
  simp
  refine take_en ht b1 (by omega) (by decide) (by decide) fun r1 s2 c1 c2 b2 kp2 n2 => ?_
  simp
  have hnl : 1 ≤ ns.length ∧ ns.length ≤ 8 := by omega
  obtain ⟨core, ec, cl, cs, cn⟩ : ∃ core : List Str, cut (ns.map D.str) none (some (if (ns.length : Int) - r1 > 1 then (ns.length : Int) - r1 else 1)) = core.map .str ∧ 1 ≤ core.length ∧ (∀ x ∈ core, x ∈ ns) ∧ core.Nodup ∧ core.length ≤ ns.length := by
    refine ⟨ns.take (min (if (ns.length : Int) - r1 > 1 then (ns.length : Int) - r1 else 1).toNat ns.length), ?_, ?_, fun x hx => List.mem_of_mem_take hx, nd.sublist (List.take_sublist _ _), by rw [List.length_take]; omega⟩
    · rw [cut_take _ _ (by split <;> omega), List.length_map, List.map_take]
    · rw [List.length_take]
      split <;> omega
  have ec' : cut (ns.map D.str) none (some (if 1 < (ns.length : Int) - r1 then (ns.length : Int) - r1 else 1)) = core.map .str := ec
  simp [ec']
  refine take_en ht b2 (by omega) (by decide) (by decide) fun way s3 w1 w2 b3 kp3 n3 => ?_
  have hrg : (ns.length : Int) ≤ 1000000 ∧ (ns.length : Int) < 4611686018427387904 := by omega
  have hrg2 : ns.length ≤ 1000000 ∧ ns.length < 4611686018427387904 := by omega
  simp [hrg, hrg2]
  have kp : Kp st s3 := ((kp0.trans kp1).trans kp2).trans kp3
  refine ws_forW2 (fun i φ s => ∃ (rs : Rows) (k' : Nat), φ = [some (.ref 1), some (.int most), some (.lst (ns.map .str)), some (.tup (core.map .str)), some (.int way), some (.ref s3.next), φ.getD 6 none, φ.getD 7 none, φ.getD 8 none] ∧ rs.ks = ns.take i ∧ (∀ p ∈ rs, Rq ns p.2.1 p.2.2) ∧ k ≤ k' ∧ k' ≤ k + 400 + 200 * i ∧ Bx s k' ∧ s3.next < s.next ∧ s.get s3.next = some (.lst (rs.map rowD)) ∧ Kp st s) (by
    rintro i φ s ⟨rs, k', h, r⟩
    rw [h]
    exact ⟨rs, k', rfl, r⟩) 0 ⟨[], k1 + 1 + 1, rfl, rfl, fun p hp => (by cases hp), by omega, by omega, b3.newN, by rw [new_next]; omega, by simp, kp.trans .newN⟩ (fun j d φ s ed h => ?_) fun φ s h => ?_
  · obtain ⟨rs, k', hφ, g1, g2, g3, g4, bx, g5, g6, kp'⟩ := h
    rw [Nat.zero_add] at g1 g4 ⊢
    rw [List.getElem?_map] at ed
    have hj : j < ns.length := by
      cases e : (List.range ns.length)[j]? with
      | none => rw [e] at ed; cases ed
      | some _ => simpa using (List.getElem?_eq_some_iff.mp e).1
    have hd : d = .int (j : Int) := by
      rw [List.getElem?_range hj] at ed
      exact (Option.some.inj ed).symm
    subst hd
    generalize φ.getD 6 none = u6 at hφ
    generalize φ.getD 7 none = u7 at hφ
    generalize φ.getD 8 none = u8 at hφ
    subst hφ
    have hx := List.getElem?_eq_getElem hj
    generalize ns[j] = x at hx
    have e1 : cut (ns.map D.str) (some (j : Int)) none = (ns.drop j).map .str := by
      rw [cut_from _ (by omega), List.map_drop] <;> rfl
    have e2 : cut (ns.map D.str) none (some (j : Int)) = (ns.take j).map .str := by
      rw [cut_to _ (by omega), List.map_take] <;> rfl
    have e3 : cut ((ns.drop j).map D.str ++ (ns.take j).map D.str) none (some 3) = ((ns.drop j ++ ns.take j).take 3).map .str := by
      rw [cut_to _ (by omega), ← List.map_append, List.map_take] <;> rfl
    have hrot : (ns.drop j ++ ns.take j).Perm ns := by
      refine List.perm_append_comm.trans ?_
      rw [List.take_append_drop]
    have rg1 : 1 ≤ ((ns.drop j ++ ns.take j).take 3).length := by rw [List.length_take, hrot.length_eq]; omega
    have rg2 : ∀ x ∈ (ns.drop j ++ ns.take j).take 3, x ∈ ns := fun x hx => hrot.mem_iff.mp (List.mem_of_mem_take hx)
    have rg3 : ((ns.drop j ++ ns.take j).take 3).Nodup := (hrot.nodup_iff.mpr nd).sublist (List.take_sublist _ _)
    have rg4 : ((ns.drop j ++ ns.take j).take 3).length ≤ 8 := by rw [List.length_take]; omega
    generalize (ns.drop j ++ ns.take j).take 3 = ring at e3 rg1 rg2 rg3 rg4
    have hln : (ns.drop j).length + (ns.take j).length ≤ line := by
      rw [List.length_drop, List.length_take]
      exact Nat.le_trans (by omega : _ ≤ 8) (by decide)
    have hln' : ((ns.drop j).map D.str).length + ((ns.take j).map D.str).length ≤ line := by rw [List.length_map, List.length_map]; exact hln
    generalize (ns.drop j).map D.str = U1 at e1 e3 hln'
    generalize (ns.take j).map D.str = U2 at e2 e3 hln'
    have l5 : 3 + 1 ≤ line := by decide
    have hix := ixN_nat hj
    simp [fbody, evSs, evS, evE, evL, evO, e1, e2, e3, hln', l2, l3, g6, hix, hx]
    refine requirement_en hr bx (by omega) (by omega) (by omega) nd fun c ps k2 s' hR z1 z2 bx' kp2' => ?_
    obtain ⟨r', hidx, hR'⟩ := row_pick (ns := ns) (r := (c, ps)) (way := way) w1 w2 cl cs cn.1 (by omega) rg1 rg2 rg3 rg4 hR s'
    have g6' : s'.get s3.next = some (.lst (rs.map rowD)) := by rw [kp2'.get _ (by have := kp.next; omega) g5, g6]
    have hll : rs.length < line := by
      have : rs.length = j := by
        have := congrArg List.length g1
        rw [List.length_map, List.length_take] at this
        omega
      exact Nat.lt_of_le_of_lt (by omega : rs.length ≤ 8) (by decide)
    simp [l1, l5, hidx, l2, g6', hll]
    have htk : ns.take (j + 1) = ns.take j ++ [x] := by rw [List.take_add_one, hx] <;> rfl
    have hsn := kp.next
    have hsn2 := kp2'.next
    refine ⟨rs ++ [(x, r')], ?_, fun a b c' hm => ?_, k2, by omega, by omega, bx'.putN (by omega), by omega, by simp [rowD], ⟨by rw [put_next]; have := kp'.next; omega, fun m h7 h8 => by rw [put_get_if, if_neg (by omega), kp2'.get m h7 (by have := kp'.next; omega)]; exact kp'.get m h7 h8⟩⟩
    · show (rs ++ [(x, r')]).map (·.1) = _
      rw [List.map_append, htk, ← g1] <;> rfl
    · rcases List.mem_append.mp hm with z | z
      · exact g2 _ z
      · have e : (a, b, c') = (x, r') := by simpa using z
        have e2 : (b, c') = r' := by injection e
        rw [← e2] at hR'
        exact hR'
  · obtain ⟨rs, k', hφ, g1, g2, g3, g4, bx, g5, g6, kp'⟩ := h
    rw [Nat.zero_add, List.length_map, List.length_range] at g1 g4
    rw [List.take_length] at g1
    generalize φ.getD 6 none = u6 at hφ
    generalize φ.getD 7 none = u7 at hφ
    generalize φ.getD 8 none = u8 at hφ
    subst hφ
    have hrl : rs.length = ns.length := by rw [← g1, List.length_map]
    have hsn := kp.next
    have hfin : ∀ (qs : Rows), qs.ks = ns → (∀ p ∈ qs, Rq ns p.2.1 p.2.2) → NetRows qs ∧ 1 ≤ qs.length ∧ (qs.length : Int) ≤ most := fun qs e h => by
      have hql : qs.length = ns.length := by rw [← e, List.length_map]
      exact ⟨⟨by rw [e]; exact nd, by rw [e]; exact nm', by rw [e]; exact h, by omega⟩, by omega, by omega⟩
    simp
    refine take_en ht bx (by omega) (by decide) (by decide) fun t s4 t1 t2 b4 kp4 n4 => ?_
    have g6' : s4.get s3.next = some (.lst (rs.map rowD)) := by rw [kp4.get _ (by omega) g5, g6]
    have kp04 : Kp st s4 := kp'.trans kp4
    by_cases ht0 : t = 0
    · subst ht0
      simp
      refine take_en ht b4 (by omega) (by omega) (by omega) fun t' s5 u1 u2 b5 kp5 n5 => ?_
      have hix : ixN ns.length t' = some t'.toNat := by
        have := ixN_nat (n := ns.length) (j := t'.toNat) (by omega)
        rwa [show ((t'.toNat : Nat) : Int) = t' by omega] at this
      have hx := List.getElem?_eq_getElem (show t'.toNat < ns.length by omega)
      generalize ns[t'.toNat]'(by omega) = x at hx
      simp [hix, hx]
      refine requirement_en hr b5 (by omega) (by omega) (by omega) nd fun c ps k2 s' hR z1 z2 bx' kp2' => ?_
      have g6'' : s'.get s3.next = some (.lst (rs.map rowD)) := by rw [kp2'.get _ (by omega) (by omega), kp5.get _ (by omega) (by omega), g6']
      have hix2 : ixN rs.length t' = some t'.toNat := by rw [hrl]; exact hix
      simp [l2, g6'', hix2]
      have hset : (rs.map rowD).set t'.toNat (.tup [.str x, Rt.d (c, ps)]) = (rs.set t'.toNat (x, (c, ps))).map rowD := by
        rw [List.map_set] <;> rfl
      rw [hset]
      have hks : Rows.ks (rs.set t'.toNat (x, (c, ps))) = ns := by
        show (rs.set t'.toNat (x, (c, ps))).map (·.1) = ns
        rw [List.map_set]
        have : rs.map (·.1) = ns := g1
        rw [this]
        show ns.set t'.toNat x = ns
        apply List.ext_getElem?
        intro i
        rw [List.getElem?_set]
        split
        · rename_i e
          rw [← e, hx]
          simp
          omega
        · rfl
      obtain ⟨f1, f2, f3⟩ := hfin (rs.set t'.toNat (x, (c, ps))) hks fun p hp => by
        rcases List.mem_or_eq_of_mem_set hp with z | z
        · exact g2 p z
        · rw [z]; exact hR
      have hsn4 := kp04.next
      have hsn5 := kp5.next
      have hsn6 := kp2'.next
      exact ⟨rs.set t'.toNat (x, (c, ps)), rfl, f1, by omega, by omega, k2, by omega, by omega, (bx'.putN (by omega)).putN (by omega), ⟨by rw [put_next, put_next]; omega, fun m h7 h8 => by rw [put_get_if, if_neg (by omega), put_get_if, if_neg (by omega), kp2'.get m h7 (by omega), kp5.get m h7 (by omega)]; exact kp04.get m h7 h8⟩⟩
    · simp [ht0, g6']
      obtain ⟨f1, f2, f3⟩ := hfin rs g1 g2
      exact ⟨rs, rfl, f1, by omega, by omega, k' + 1, by omega, by omega, b4.putN (by omega), ⟨by rw [put_next]; exact kp04.next, fun m h7 h8 => by rw [put_get_if, if_neg (by omega)]; exact kp04.get m h7 h8⟩⟩
end
theorem drows_ok {P : Defs} {n f nm tk rq : Nat} (hf : P[f]? = some (d_law_rows nm tk rq)) (h1 : NamesOk (callN P n) nm) (h2 : TakeOk (callN P n) tk) (h3 : ReqOk (callN P n) rq) : DRowsOk (callN P (n + 1)) f := fun st k most hb hk m1 m2 => by
  rw [call_run hf]
  exact drows_run h1 h2 h3 hb hk m1 m2
end OM
namespace OM
open PySem (Str)
section
variable {C : Calls} {tk sm : Nat} {st : Store} {k : Nat}
theorem drows_en {f : Nat} (h : DRowsOk C f) {most : Int} (b : Bx st k) (hk : k ≤ 5000000) (h1 : 1 ≤ most) (h2 : most ≤ 8) {K : D → Store → Prop}
    (q : ∀ (rs : Rows) (k' : Nat) st', NetRows rs → 1 ≤ rs.length → (rs.length : Int) ≤ most → k ≤ k' → k' ≤ k + 5000 → Bx st' k' → Kp st st' → K (.lst (rs.map rowD)) st') : En (C f [.ref 1, .int most] st) K :=
  En.imp (h st k most b hk h1 h2) fun d st' ⟨rs, k', e, h1, h2, h3, h4, h5, h6, h7⟩ => by subst e; exact q rs k' st' h1 h2 h3 h4 h5 h6 h7
end
@[simp] theorem dctOf_dctD {st : Store} {rs : Rows} : dctOf st (dctD rs) = some (rs.ks, rs.vs) := rfl
end OM
namespace OM
open PySem (Str)
/-- Q is what remains of S: all that can stay, stays -/
structure Lg (rs : Rows) (m S Q : List Str) : Prop where
  sub : Q.Sublist S
  cl : ∀ x ∈ Q, satAt rs (Q ++ m) x = true
  max : ∀ T : List Str, (∀ x ∈ T, x ∈ S) → (∀ x ∈ T, satAt rs (T ++ m) x = true) → ∀ x ∈ T, x ∈ Q
theorem Lg.uniq {rs : Rows} {m S Q Q' : List Str} (nd : S.Nodup) (h : Lg rs m S Q) (h' : Lg rs m S Q') : Q = Q' := by
  have e : ∀ x, x ∈ Q ↔ x ∈ Q' := fun x => ⟨fun hx => h'.max Q (fun y hy => h.sub.subset hy) h.cl x hx, fun hx => h.max Q' (fun y hy => h'.sub.subset hy) h'.cl x hx⟩
  have key : ∀ {A B : List Str}, A.Nodup → B.Sublist A → B = A.filter fun x => decide (x ∈ B) := fun {A B} nd hs => by
    induction hs with
    | slnil => rfl
    | @cons l1 l2 a hs ih =>
      have nd' := List.nodup_cons.mp nd
      rw [List.filter_cons, if_neg (by simpa using fun z => nd'.1 (hs.subset z))]
      exact ih nd'.2
    | @cons_cons l1 l2 a hs ih =>
      have nd' := List.nodup_cons.mp nd
      rw [List.filter_cons, if_pos (by simp)]
      congr 1
      rw [show l2.filter (fun x => decide (x ∈ a :: l1)) = l2.filter fun x => decide (x ∈ l1) from List.filter_congr fun x hx => by
        have : x ≠ a := fun e => nd'.1 (e ▸ hx)
        simp [this]]
      exact ih nd'.2
  rw [key nd h.sub, key nd h'.sub]
  exact List.filter_congr fun x _ => by simp [e x]
end OM
namespace OM
open PySem (Str)
section
variable {P : Defs} {n f : Nat}
theorem mixed_ok (hf : P[f]? = some dMixed) : MixedOk (callN P (n + 1)) f := fun c k h0 h1 => by
  obtain ⟨r, e, a, b⟩ := mixed_run (callN P n) c k st0 h0 h1
  exact ⟨r, Pc.run hf ⟨_, _, e, rfl⟩ rfl rfl, a, b⟩
theorem take_ok {mx : Nat} (hf : P[f]? = some (dTake mx)) (h : MixedOk (callN P n) mx) : TakeOk (callN P (n + 1)) f := fun st k size b hk h1 h2 => by
  rw [call_run hf]
  exact take_run h b hk h1 h2
theorem names_ok {tk : Nat} (hf : P[f]? = some (dNames tk)) (h : TakeOk (callN P n) tk) : NamesOk (callN P (n + 1)) f := fun st k many b hk h0 h1 => by
  rw [call_run hf]
  exact names_run h b hk h0 h1
theorem some_ok {tk : Nat} (hf : P[f]? = some (dSome tk)) (h : TakeOk (callN P n) tk) : SomeOk (callN P (n + 1)) f := fun st k l vs b hk hv h1 h2 => by
  rw [call_run hf]
  exact some_run h b hk hv h1 h2
theorem count_ok {tk : Nat} (hf : P[f]? = some (dCount tk)) (h : TakeOk (callN P n) tk) : CountOk (callN P (n + 1)) f := fun st k many b hk h1 h2 => by
  rw [call_run hf]
  exact count_run h b hk h1 h2
theorem listed_ok (hf : P[f]? = some dListed) : ListedOk (callN P (n + 1)) f := fun ps hl => Pc.run hf ⟨_, _, listed_run (callN P n) (Nat.lt_of_le_of_lt hl (by decide)), rfl⟩ (by simp) rfl
theorem req_ok {tk sm ct ls : Nat} (hf : P[f]? = some (dReq tk sm ct ls)) (h1 : TakeOk (callN P n) tk) (h2 : SomeOk (callN P n) sm) (h3 : CountOk (callN P n) ct) (h4 : ListedOk (callN P n) ls) : ReqOk (callN P (n + 1)) f := fun st k ns b hk l1 l2 nd => by
  rw [call_run hf]
  exact req_run h1 h2 h3 h4 l1 l2 nd b hk
def BoxOk (C : Calls) (f : Nat) : Prop := ∀ ns : List Int, ns.length ≤ 1000 → En (C f [.scr ns] st0) fun d st => d = .ref 1 ∧ Bx st 0 ∧ st.next = 2
theorem box_ok (hf : P[f]? = some dBox) : BoxOk (callN P (n + 1)) f := fun ns hl => by
  rw [call_run hf]
  obtain ⟨a, st, e, q⟩ := box_run (callN P n) ns hl
  exact ⟨a, st, e, q⟩
theorem box_en {C : Calls} (h : BoxOk C f) {ns : List Int} (hl : ns.length ≤ 1000) {K : D → Store → Prop} (q : ∀ st, Bx st 0 → K (.ref 1) st) : En (C f [.scr ns] st0) K :=
  En.imp (h ns hl) fun d st ⟨e, b, _⟩ => by subst e; exact q st b
/-- a law's end -/
theorem law_end {lf : Nat} {df : Df} (hf : P[lf]? = some df) {ns : List Int} (h : En (runD (callN P n) df [.scr ns] st0) fun d _ => d = .bl true) : ∃ st', callN P (n + 1) lf [.scr ns] st0 = ok (.bl true) st' := by
  obtain ⟨d, st', e, rfl⟩ := h
  exact ⟨st', by rw [call_run hf, e]⟩
theorem thrpart_ok {nf ii hd pt : Nat} (ht : P[f]? = some (dThreshold nf ii hd)) (hlt : pt < nf) (hi : IsIntOk (callN P n) ii) (hh : HasDupOk (callN P n) hd) (hg : PartOk (callN P n) pt) : ∀ {d : D}, plain d = true → dep d ≤ 60 → tame d = true → Pc (callN P (n + 1)) f [d, .fn pt] (.bl (thr isPt d)) := fun h1 h2 h3 => thr_part_ok ht hlt hi hh hg h1 h2 h3
end
end OM
namespace OM
open PySem (Str)
end OM
namespace OM
open PySem (Str)
@[simp] theorem st0_next : st0.next = 0 := rfl
structure Std (l : List Str) : Prop where
  pw : l.Pairwise (fun a b => leT a b = true)
  nd : l.Nodup
theorem Std.sub {l m : List Str} (h : Std l) (s : m.Sublist l) : Std m := ⟨h.pw.sublist s, h.nd.sublist s⟩
theorem Std.filter {l : List Str} (h : Std l) (p : Str → Bool) : Std (l.filter p) := h.sub List.filter_sublist
theorem std_sort {l : List Str} (h : l.Nodup) : Std (sortT l) := ⟨List.pairwise_mergeSort (le := leT) leT_trans leT_total l, sortT_nodup.mpr h⟩
theorem std_set (l : List Str) : Std (nodeSet l) := std_sort (dedup_nodup l [] .nil)
theorem Std.uniq {l m : List Str} (h : Std l) (h' : Std m) (e : ∀ x, x ∈ l ↔ x ∈ m) : l = m := by
  have p : l.Perm m := (List.perm_ext_iff_of_nodup h.nd h'.nd).mpr e
  exact p.eq_of_pairwise (fun a b _ _ h1 h2 => leT_anti a b h1 h2) h.pw h'.pw
theorem Std.set {l : List Str} (h : Std l) : nodeSet l = l := (std_set l).uniq h fun x => nodeSet_mem
def outs (l m : List Str) : List Str := nodeSet (l.filter fun x => !decide (x ∈ m))
/-- the nodes that can be removed -/
def gone (rs : Rows) (m q : List Str) : List Str := q.filter fun x => !satAt rs (q ++ m) x
/-- the order of removal, and what remains -/
def remN (rs : Rows) (m : List Str) : Nat → List Str → List Str × List Str
  | 0, q => ([], q)
  | n + 1, q => match gone rs m q with
    | [] => ([], q)
    | x :: _ => (x :: (remN rs m n (q.filter fun y => decide (y ≠ x))).1, (remN rs m n (q.filter fun y => decide (y ≠ x))).2)
def remW (rs : Rows) (m q : List Str) : List Str × List Str := remN rs m q.length q
end OM
namespace OM
open PySem (Str)
end OM
namespace OM
open PySem (Str)
def setD (l : List Str) : D := .lst (l.map .str)
@[simp] theorem nr_set (l : List Str) : nr (setD l) = true := by simp [setD]
@[simp] theorem nrL_sets (L : List (List Str)) : nrL (L.map setD) = true := nrL_map fun l _ => nr_set l
end OM
namespace OM
open PySem (Str)
end OM
namespace OM
open PySem (Str)
@[simp] theorem items_ref {n : Nat} : itemsOf (.ref n) = none := rfl
def tupD (l : List Str) : D := .tup (l.map .str)
@[simp] theorem nr_tupD (l : List Str) : nr (tupD l) = true := by simp [tupD]
@[simp] theorem nrL_tups (L : List (List Str)) : nrL (L.map tupD) = true := nrL_map fun l _ => nr_tupD l
end OM
namespace OM
open PySem (Str)
end OM
namespace OM
open PySem (Str)
end OM
namespace OM
open PySem (Str)
/-- the largest quorum in l, f faulty -/
def lq (rs : Rows) (f l : List Str) : List Str := (remW rs f (outs l f)).2
/-- the order in which the others are removed -/
def ro (rs : Rows) (f l : List Str) : List Str := (remW rs f (outs l f)).1
/-- certificates -/
inductive Ct where
  | empty (one : Bool) (ord : List Str)
  | split (x : Str) (a b : Ct)
def sideS (one : Bool) : Str := if one then "one" else "other"
def Ct.d : Ct → D
  | .empty s o => .tup [.str "empty", .str (sideS s), .tup (o.map .str)]
  | .split x a b => .tup [.str "split", .str x, a.d, b.d]
/-- what is found: a certificate, or two disjoint quorums -/
inductive Fd where
  | cert (c : Ct)
  | two (a b : List Str)
def Fd.d : Fd → D
  | .cert c => c.d
  | .two a b => .tup [.str "disjoint", .tup (a.map .str), .tup (b.map .str)]
theorem nr_ct : ∀ c : Ct, nr c.d = true
  | .empty s o => by simp [Ct.d]
  | .split x a b => by simp [Ct.d, nr_ct a, nr_ct b]
@[simp] theorem nr_fd (c : Fd) : nr c.d = true := by
  cases c with
  | cert c => exact nr_ct c
  | two a b => simp [Fd.d]
def cf (rs : Rows) (f : List Str) : Nat → List Str → List Str → Fd
  | 0, _, _ => .two [] []
  | n + 1, one, other =>
    if lq rs f one = [] then .cert (.empty true (ro rs f one))
    else if lq rs f other = [] then .cert (.empty false (ro rs f other))
    else match (lq rs f one).filter fun x => decide (x ∈ lq rs f other) with
      | [] => .two (lq rs f one) (lq rs f other)
      | x :: _ => match cf rs f n (outs one [x]) other with
        | .two a b => .two a b
        | .cert c => match cf rs f n one (outs other [x]) with
          | .two a b => .two a b
          | .cert c' => .cert (.split x c c')
section
variable {C : Calls} {lqf rof os cf_ : Nat}
def Ct.hd : Ct → Str
  | .empty _ _ => "empty"
  | .split _ _ _ => "split"
end
end OM
namespace OM
open PySem (Str)
end OM
namespace OM
open PySem (Str)
end OM
namespace OM
open PySem (Str)
end OM
namespace OM
open PySem (Str)
end OM
namespace OM
open PySem (Str)
end OM
namespace OM
open PySem (Str)
end OM
namespace OM
open PySem (Str)
end OM
namespace OM
open PySem (Str)
def Ct.ht : Ct → Nat
  | .empty _ _ => 0
  | .split _ a b => max a.ht b.ht + 1
end OM
namespace OM
open PySem (Str)
end OM
namespace OM
open PySem (Str)
end OM
namespace OM
open PySem (Str)
end OM
namespace OM
open PySem (Str)
end OM
namespace OM
open PySem (Str)
end OM
namespace OM
open PySem (Str)
end OM
namespace OM
open PySem (Str)
def nmOf : D → Option Str
  | .str x => some x
  | _ => none
/-- whether data is one of the names -/
def isIn (d : D) (l : List Str) : Bool := match nmOf d with
  | some x => decide (x ∈ l)
  | none => false
end OM
namespace OM
open PySem (Str)
end OM
namespace OM
open PySem (Str)
end OM
namespace OM
open PySem (Str)
end OM
namespace OM
open PySem (Str)
end OM
namespace OM
open PySem (Str)
end OM
namespace OM
open PySem (Str)
end OM
namespace OM
open PySem (Str)
end OM
namespace OM
open PySem (Str)
end OM
namespace OM
open PySem (Str)
end OM
namespace OM
open PySem (Str)
end OM
namespace OM
open PySem (Str)
end OM
namespace OM
open PySem (Str)
end OM
namespace OM
open PySem (Str)
end OM
namespace OM
open PySem (Str)
end OM
namespace OM
open PySem (Str)
end OM
namespace OM
open PySem (Str)
structure Ren (g : Str → Str) (rs rs' : Rows) : Prop where
  inj : ∀ x ∈ rs.ks, ∀ y ∈ rs.ks, g x = g y → x = y
  ks : ∀ z, z ∈ rs'.ks ↔ ∃ x ∈ rs.ks, g x = z
  sat : ∀ x ∈ rs.ks, ∀ l l' : List Str, (∀ y ∈ rs.ks, y ∈ l ↔ g y ∈ l') → satAt rs' l' (g x) = satAt rs l x
structure Rl (g : Str → Str) (rs : Rows) (l l' : List Str) : Prop where
  sub : ∀ x ∈ l, x ∈ rs.ks
  iff : ∀ z, z ∈ l' ↔ ∃ x ∈ l, g x = z
section
variable {g : Str → Str} {rs rs' : Rows}
theorem Rl.mem (R : Ren g rs rs') {l l' : List Str} (h : Rl g rs l l') {x : Str} (hx : x ∈ rs.ks) : x ∈ l ↔ g x ∈ l' := by
  rw [h.iff]
  constructor
  · exact fun z => ⟨x, z, rfl⟩
  · rintro ⟨y, hy, e⟩
    rw [← R.inj y (h.sub y hy) x hx e]
    exact hy
theorem Rl.app {l l' m m' : List Str} (h : Rl g rs l l') (k : Rl g rs m m') : Rl g rs (l ++ m) (l' ++ m') where
  sub := fun x hx => (List.mem_append.mp hx).elim (h.sub x) (k.sub x)
  iff := fun z => by
    rw [List.mem_append, h.iff, k.iff]
    constructor
    · rintro (⟨x, hx, e⟩ | ⟨x, hx, e⟩)
      · exact ⟨x, List.mem_append_left _ hx, e⟩
      · exact ⟨x, List.mem_append_right _ hx, e⟩
    · rintro ⟨x, hx, e⟩
      exact (List.mem_append.mp hx).imp (fun z => ⟨x, z, e⟩) fun z => ⟨x, z, e⟩
/-- renamed, in order -/
def mapS (g : Str → Str) (l : List Str) : List Str := sortT (l.map g)
theorem mapS_mem {l : List Str} {z : Str} : z ∈ mapS g l ↔ ∃ x ∈ l, g x = z := by
  unfold mapS
  rw [sortT_mem, List.mem_map]
theorem nodup_map (R : Ren g rs rs') {l : List Str} (nd : l.Nodup) (h : ∀ x ∈ l, x ∈ rs.ks) : (l.map g).Nodup := by
  rw [List.Nodup, List.pairwise_map]
  exact List.Pairwise.imp_of_mem (fun {a b} ha hb hn e => hn (R.inj a (h a ha) b (h b hb) e)) nd
theorem mapS_std (R : Ren g rs rs') {l : List Str} (nd : l.Nodup) (h : ∀ x ∈ l, x ∈ rs.ks) : Std (mapS g l) := std_sort (nodup_map R nd h)
theorem Rl.eq (R : Ren g rs rs') {l l' : List Str} (h : Rl g rs l l') (nd : l.Nodup) (hs : Std l') : l' = mapS g l := hs.uniq (mapS_std R nd h.sub) fun z => by rw [h.iff, mapS_mem]
variable (R : Ren g rs rs') (sK : Std rs.ks) (sK' : Std rs'.ks)
include R sK sK'
end
end OM
namespace OM
open PySem (Str)
end OM
namespace OM
open PySem (Str)
def namesD (K L : List Str) : D := .dct K (L.map .str)
@[simp] theorem nr_namesD (K L : List Str) : nr (namesD K L) = true := by simp [namesD]
def renP (g : Str → Str) : Pt → Pt
  | .nm x => .nm (g x)
  | .in_ c xs => .in_ c (xs.map g)
end OM
namespace OM
open PySem (Str)
end OM
namespace OM
open PySem (Str)
def RelR (g : Str → Str) (p t : Str × Rt) : Prop := t.1 = g p.1 ∧ ∃ qs : List Pt, qs.Perm p.2.2 ∧ t.2 = (p.2.1, qs.map (renP g))
inductive RowsR (g : Str → Str) : Rows → Rows → Prop
  | nil : RowsR g [] []
  | cons {p t : Str × Rt} {r s : Rows} : RelR g p t → RowsR g r s → RowsR g (p :: r) (t :: s)
section
variable {g : Str → Str}
theorem RowsR.snoc {r s : Rows} {p t : Str × Rt} (h : RowsR g r s) (k : RelR g p t) : RowsR g (r ++ [p]) (s ++ [t]) := by
  induction h with
  | nil => exact .cons k .nil
  | cons a _ ih => exact .cons a ih
theorem RowsR.ks {r s : Rows} (h : RowsR g r s) : s.ks = r.ks.map g := by
  induction h with
  | nil => rfl
  | @cons p t r s a _ ih =>
    show t.1 :: s.ks = g p.1 :: r.ks.map g
    rw [ih, a.1]
theorem RowsR.len {r s : Rows} (h : RowsR g r s) : s.length = r.length := by
  have := congrArg List.length h.ks
  rw [List.length_map, List.length_map, List.length_map] at this
  exact this
theorem RowsR.back {r s : Rows} (h : RowsR g r s) : ∀ t ∈ s, ∃ p ∈ r, RelR g p t := by
  induction h with
  | nil => exact fun p hp => by cases hp
  | @cons p t r s a _ ih =>
    intro q hq
    rcases List.mem_cons.mp hq with rfl | hq
    · exact ⟨p, List.mem_cons_self .., a⟩
    · obtain ⟨u, hu, b⟩ := ih q hq
      exact ⟨u, List.mem_cons_of_mem _ hu, b⟩
end
end OM
namespace OM
open PySem (Str)
end OM
namespace OM
open PySem (Str)
/-- texts that are written differently differ -/
theorem ofString_inj {a b : String} : (Str.ofString a = Str.ofString b) = (a = b) := by
  apply propext
  constructor
  · intro h
    rw [Str.ofString_eq_toList, Str.ofString_eq_toList] at h
    have h1 : a.toList.map Char.toNat = b.toList.map Char.toNat := by simpa using h
    have h2 : a.toList = b.toList := (List.map_inj_right fun x y e => Char.toNat_inj.mp e).mp h1
    exact String.toList_inj.mp h2
  · intro h; rw [h]
/-- a run ends with K, or raises with X -/
def EX {α : Type} (m : Res α) (K : α → Store → Prop) (X : Xc → Store → Prop) : Prop :=
  match m with
  | some (.ok a st) => K a st
  | some (.exc x st) => X x st
  | none => False
/-- a run of statements, that may raise -/
def WXc (r : SR) (N : Fr → Store → Prop) (R : D → Store → Prop) (B Ct : Fr → Store → Prop) (X : Xc → Fr → Store → Prop) : Prop :=
  match r with
  | some (.nx φ st) => N φ st
  | some (.ret d st) => R d st
  | some (.brk φ st) => B φ st
  | some (.cnt φ st) => Ct φ st
  | some (.exc x φ st) => X x φ st
  | none => False
section
variable {α β : Type} {st : Store} {φ : Fr} {N B Ct : Fr → Store → Prop} {R : D → Store → Prop} {X : Xc → Store → Prop} {XS : Xc → Fr → Store → Prop} {x : Xc}
@[simp] theorem bind_exc {f : α → Store → Res β} : Res.bind (some (Out.exc x st)) f = some (Out.exc x st) := rfl
@[simp] theorem toS_exc {f : α → Store → SR} : Res.toS (some (Out.exc x st)) φ f = some (SO.exc x φ st) := rfl
@[simp] theorem seq_exc {f : Fr → Store → SR} : SR.seq (some (.exc x φ st)) f = some (.exc x φ st) := rfl
@[simp] theorem caught_exc {f : Xc → Fr → Store → SR} : SR.caught (some (.exc x φ st)) f = f x φ st := rfl
@[simp] theorem caught_nx {f : Xc → Fr → Store → SR} : SR.caught (some (.nx φ st)) f = some (.nx φ st) := rfl
@[simp] theorem caught_ret {f : Xc → Fr → Store → SR} {d : D} : SR.caught (some (.ret d st)) f = some (.ret d st) := rfl
@[simp] theorem ex_ok {a : α} {K : α → Store → Prop} : EX (ok a st) K X ↔ K a st := Iff.rfl
@[simp] theorem ex_exc {K : α → Store → Prop} : EX (some (.exc x st)) K X ↔ X x st := Iff.rfl
@[simp] theorem ex_none {K : α → Store → Prop} : EX (none : Res α) K X ↔ False := Iff.rfl
@[simp] theorem ex_bind {m : Res α} {f : α → Store → Res β} {K : β → Store → Prop} : EX (m.bind f) K X ↔ EX m (fun a st => EX (f a st) K X) X := by
  cases m with
  | none => exact Iff.rfl
  | some o => cases o <;> exact Iff.rfl
@[simp] theorem ex_lift {o : Option α} {K : α → Store → Prop} : EX (lift o st) K X ↔ ∃ a, o = some a ∧ K a st := by
  cases o with
  | none => exact ⟨False.elim, fun ⟨_, e, _⟩ => by cases e⟩
  | some a => exact ⟨fun h => ⟨a, rfl, h⟩, fun ⟨_, e, q⟩ => by cases e; exact q⟩
theorem En.ex {m : Res α} {K : α → Store → Prop} (h : En m K) : EX m K X := by
  obtain ⟨a, s, rfl, q⟩ := h
  exact q
theorem EX.imp {m : Res α} {K K' : α → Store → Prop} {X' : Xc → Store → Prop} (h : EX m K X) (f : ∀ a s, K a s → K' a s) (g : ∀ x s, X x s → X' x s) : EX m K' X' := by
  cases m with
  | none => exact h
  | some o => cases o with
    | ok a s => exact f _ _ h
    | exc x s => exact g _ _ h
@[simp] theorem wx_nx : WXc (some (.nx φ st)) N R B Ct XS ↔ N φ st := Iff.rfl
@[simp] theorem wx_ret {d : D} : WXc (some (.ret d st)) N R B Ct XS ↔ R d st := Iff.rfl
@[simp] theorem wx_brk : WXc (some (.brk φ st)) N R B Ct XS ↔ B φ st := Iff.rfl
@[simp] theorem wx_cnt : WXc (some (.cnt φ st)) N R B Ct XS ↔ Ct φ st := Iff.rfl
@[simp] theorem wx_exc : WXc (some (.exc x φ st)) N R B Ct XS ↔ XS x φ st := Iff.rfl
@[simp] theorem wx_none : WXc none N R B Ct XS ↔ False := Iff.rfl
@[simp] theorem wx_toS {m : Res α} {f : α → Store → SR} : WXc (m.toS φ f) N R B Ct XS ↔ EX m (fun a st => WXc (f a st) N R B Ct XS) (fun x st => XS x φ st) := by
  cases m with
  | none => exact Iff.rfl
  | some o => cases o <;> exact Iff.rfl
@[simp] theorem wx_seq {r : SR} {f : Fr → Store → SR} : WXc (r.seq f) N R B Ct XS ↔ WXc r (fun φ st => WXc (f φ st) N R B Ct XS) R B Ct XS := by
  cases r with
  | none => exact Iff.rfl
  | some o => cases o <;> exact Iff.rfl
@[simp] theorem wx_caught {r : SR} {f : Xc → Fr → Store → SR} : WXc (r.caught f) N R B Ct XS ↔ WXc r N R B Ct (fun x φ st => WXc (f x φ st) N R B Ct XS) := by
  cases r with
  | none => exact Iff.rfl
  | some o => cases o <;> exact Iff.rfl
theorem WXc.ws {r : SR} (h : WXc r N R B Ct fun _ _ _ => False) : WS r N R B Ct := by
  cases r with
  | none => exact h
  | some o => cases o <;> exact h
theorem WXc.imp {r : SR} {N' B' Ct' : Fr → Store → Prop} {R' : D → Store → Prop} {XS' : Xc → Fr → Store → Prop} (h : WXc r N R B Ct XS) (hN : ∀ φ st, N φ st → N' φ st) (hR : ∀ d st, R d st → R' d st) (hB : ∀ φ st, B φ st → B' φ st) (hC : ∀ φ st, Ct φ st → Ct' φ st) (hX : ∀ x φ st, XS x φ st → XS' x φ st) : WXc r N' R' B' Ct' XS' := by
  cases r with
  | none => exact h
  | some o => cases o with
    | nx φ st => exact hN _ _ h
    | ret d st => exact hR _ _ h
    | brk φ st => exact hB _ _ h
    | cnt φ st => exact hC _ _ h
    | exc x φ st => exact hX _ _ _ h
theorem ex_runD {C : Calls} {df : Df} {ds : List D} {K : D → Store → Prop} (hl : ds.length = df.np) (h : WXc (evSs C df.body (ds.map some ++ List.replicate (df.ns - df.np) none) st) (fun _ st => K .non st) K NF NF (fun x _ st => X x st)) : EX (runD C df ds st) K X := by
  unfold runD
  rw [if_pos hl]
  cases e : evSs C df.body (ds.map some ++ List.replicate (df.ns - df.np) none) st with
  | none => rw [e] at h; exact h.elim
  | some o => rw [e] at h; cases o <;> first | exact h | exact h.elim
/-- the turns of a for, by an invariant -/
theorem wx_forW {ws : List Nat} {body : D → Fr → Store → SR} : ∀ {xs : List D} (I : Nat → Fr → Store → Prop) (i : Nat) {φ : Fr} {st : Store}, I i (wipeF φ ws) st →
    (∀ j d φ st, xs[j]? = some d → I (i + j) φ st → WXc (body d φ st) (fun φ st => I (i + j + 1) (wipeF φ ws) st) R (fun φ st => N (wipeF φ ws) st) (fun φ st => I (i + j + 1) (wipeF φ ws) st) XS) → (∀ φ st, I (i + xs.length) φ st → N φ st) → WXc (forW ws body xs φ st) N R B Ct XS
  | [], I, i, φ, st, h, _, hd => hd _ st h
  | x :: xs, I, i, φ, st, h, hs, hd => by
    have h1 := hs 0 x (wipeF φ ws) st rfl h
    show WXc (match body x (wipeF φ ws) st with
      | some (.nx φ' st') => forW ws body xs φ' st'
      | some (.cnt φ' st') => forW ws body xs φ' st'
      | some (.brk φ' st') => some (.nx (wipeF φ' ws) st')
      | r => r) N R B Ct XS
    have next : ∀ φ' st', I (i + 1) (wipeF φ' ws) st' → WXc (forW ws body xs φ' st') N R B Ct XS := fun φ' st' h' =>
      wx_forW (xs := xs) I (i + 1) h' (fun j d φ st e q => by
        have := hs (j + 1) d φ st (by simpa using e) (by rw [show i + (j + 1) = i + 1 + j by omega]; exact q)
        rw [show i + (j + 1) = i + 1 + j by omega] at this
        exact this) fun φ st q => hd φ st (by rw [show i + (x :: xs).length = i + 1 + xs.length by simp; omega]; exact q)
    cases e : body x (wipeF φ ws) st with
    | none => rw [e] at h1; exact h1.elim
    | some o =>
      rw [e] at h1
      cases o with
      | nx φ' st' => exact next φ' st' h1
      | cnt φ' st' => exact next φ' st' h1
      | brk φ' st' => exact h1
      | ret d st' => exact h1
      | exc y φ' st' => exact h1
theorem wx_forW2 {ws : List Nat} {body : D → Fr → Store → SR} {xs : List D} (I : Nat → Fr → Store → Prop) (hw : ∀ i φ st, I i φ st → I i (wipeF φ ws) st) (i : Nat) {φ : Fr} {st : Store} (h0 : I i φ st) (hs : ∀ j d φ st, xs[j]? = some d → I (i + j) φ st → WXc (body d φ st) (I (i + j + 1)) R (fun φ st => N (wipeF φ ws) st) (I (i + j + 1)) XS) (hd : ∀ φ st, I (i + xs.length) φ st → N φ st) : WXc (forW ws body xs φ st) N R B Ct XS :=
  wx_forW I i (hw _ _ _ h0) (fun j d φ st e h => (hs j d φ st e h).imp (fun _ _ q => hw _ _ _ q) (fun _ _ q => q) (fun _ _ q => q) (fun _ _ q => hw _ _ _ q) fun _ _ _ q => q) hd
end
def resX (r : Except Xc D) (st : Store) : Res D := match r with
  | .ok d => ok d st
  | .error x => some (.exc x st)
def nrX : Except Xc D → Bool
  | .ok d => nr d
  | .error x => nrL x.fv
@[simp] theorem resX_ok {d : D} {st : Store} : resX (.ok d) st = ok d st := rfl
@[simp] theorem resX_error {x : Xc} {st : Store} : resX (.error x) st = some (Out.exc x st) := rfl
/-- what comes of a pure call -/
abbrev Px (C : Calls) (f : Nat) (ds : List D) (r : Except Xc D) : Prop := ∀ st, pureC (C f) ds st = resX r st
theorem pure_ofX {F : List D → Store → Res D} {ds : List D} {r : Except Xc D} (h : EX (F ds st0) (fun d _ => r = .ok d) (fun x _ => r = .error x)) (h1 : nrL ds = true) (h2 : nrX r = true) (st : Store) : pureC F ds st = resX r st := by
  unfold pureC
  rw [if_pos h1]
  cases e : F ds st0 with
  | none => rw [e] at h; exact h.elim
  | some o =>
    rw [e] at h
    cases o with
    | ok d s =>
      have h' : r = .ok d := h
      subst h'
      show (if nr d then ok d st else none) = _
      rw [if_pos (show nr d = true from h2)] <;> rfl
    | exc x s =>
      have h' : r = .error x := h
      subst h'
      show (if nrL x.fv then some (Out.exc x st) else none) = _
      rw [if_pos (show nrL x.fv = true from h2)] <;> rfl
theorem Px.run {P : Defs} {n f : Nat} {df : Df} {ds : List D} {r : Except Xc D} (hf : P[f]? = some df) (h : EX (runD (callN P n) df ds st0) (fun d _ => r = .ok d) (fun x _ => r = .error x)) (h1 : nrL ds = true) (h2 : nrX r = true) : Px (callN P (n + 1)) f ds r := fun st => by
  refine pure_ofX ?_ h1 h2 st
  show EX (match P[f]? with
    | some df => runD (callN P n) df ds st0
    | none => none) _ _
  rw [hf]
  exact h
end OM
namespace OM
open PySem (Str)
/-- _law_is_name: k01 k07 k37 k38 k40 k81 k82 k83 k84 k85 k86 k91 k92 k96 -/
def d_law_is_name : Df := ⟨1, 2, [
  .ite (.or (.not (.isi (.var 0) [.str])) (.not (.chain .lt .lt (.cst (.int 0)) (.bi false .len [(.var 0)]) (.cst (.int 9))))) [.ret (.cst (.bl false))] [],
  .ret (.bi false .all [(.comp false (.nm 1) (.var 0) none (.cmp .in_ (.var 1) (.cst (.str "abcdefghijklmnopqrstuvwxyz"))))])]⟩
/-- _law_is_threshold: k01 k07 -/
def d_law_is_threshold (c_law_is_name c_law_is_threshold : Nat) : Df := ⟨2, 6, [
  .ite (.or (.not (.isi (.var 0) [.tuple])) (.or (.cmp .ne (.bi false .len [(.var 0)]) (.cst (.int 2))) (.not (.isi (.idx (.var 0) (.cst (.int 1))) [.tuple])))) [.ret (.cst (.bl false))] [],
  .asg (.tp [.nm 2, .nm 3]) (.var 0),
  .ite (.or (.isi (.var 2) [.bool]) (.or (.not (.isi (.var 2) [.int])) (.not (.chain .lt .le (.cst (.int 0)) (.var 2) (.bi false .len [(.var 3)]))))) [.ret (.cst (.bl false))] [],
  .forw [4, 5] (.nm 4) (.range (.cst (.int 0)) (.bi false .len [(.var 3)])) [.asg (.nm 5) (.or (.pcall c_law_is_name [(.idx (.var 3) (.var 4))]) (.and (.var 1) (.pcall c_law_is_threshold [(.idx (.var 3) (.var 4)), (.cst (.bl false))]))), .ite (.or (.not (.var 5)) (.cmp .in_ (.idx (.var 3) (.var 4)) (.slc false (.var 3) none (some (.var 4))))) [.ret (.cst (.bl false))] []],
  .ret (.cst (.bl true))]⟩
end OM
namespace OM
open PySem (Str)
/-- data that the checks can take -/
structure Tm (d : D) : Prop where
  pl : plain d = true
  dep : dep d ≤ 60
  tm : tame d = true
theorem Tm.parts {c : D} {ps : List D} (h : Tm (.tup [c, .tup ps])) : ps.length ≤ 1000000 ∧ ∀ p ∈ ps, Tm p := by
  have h1 : (plain c && (plainL ps && true)) = true := h.pl
  have h2 : max (OM.dep c) (max (depL ps + 1) 0) + 1 ≤ 60 := h.dep
  have h3 : (decide (2 ≤ 1000000) && (tame c && ((decide (ps.length ≤ 1000000) && tameL ps) && true))) = true := h.tm
  simp only [Bool.and_eq_true, decide_eq_true_eq, and_true] at h1 h3
  exact ⟨h3.2.2.1, fun p hp => ⟨plainL_mem h1.2 hp, by have := depL_mem hp; omega, tameL_mem h3.2.2.2 hp⟩⟩
theorem letters_turns {C : Calls} {st : Store} {x : Str} {φ : Fr} (hφ : φ.length = 2) : turns (tbody C (.nm 1) none (.cmp .in_ (.var 1) (.cst (.str "abcdefghijklmnopqrstuvwxyz"))) φ) (x.cps.toList.map fun c => D.str ⟨#[c]⟩) st = ok ((x.cps.toList.map fun c => decide (c ∈ letters.cps.toList)).map .bl) st := by
  obtain ⟨a, b, rfl⟩ : ∃ a b, φ = [a, b] := by
    match φ, hφ with
    | [a, b], _ => exact ⟨a, b, rfl⟩
  rw [turns_map (g := fun d => match d with
    | .str y => match y.cps.toList with
      | [c] => .bl (decide (c ∈ letters.cps.toList))
      | _ => d
    | _ => d)]
  · congr 1
    rw [List.map_map, List.map_map]
    rfl
  · intro y hy
    obtain ⟨c, _, rfl⟩ := List.mem_map.mp hy
    simp [tbody, evC, evE, inD]
    rfl
theorem lawIsName_run (C : Calls) {st : Store} {d : D} (h : plain d = true) : runD C d_law_is_name [d] st = ok (.bl (isNm d)) st := by
  cases d with
  | str x =>
    by_cases h1 : 1 ≤ x.length
    · by_cases h8 : x.length ≤ 8
      · have hl8 : x.cps.size ≤ 8 := h8
        have hl' : x.cps.size < line := Nat.lt_of_le_of_lt hl8 (by decide)
        have h1' : 0 < x.length := by omega
        have h8' : (x.length : Int) < 9 := by omega
        have hit : itemsOf (.str x) = some (x.cps.toList.map fun c => D.str ⟨#[c]⟩) := rfl
        have hall := all_run (st := st) (x.cps.toList.map fun c => decide (c ∈ letters.cps.toList))
        have ht' := letters_turns (C := C) (st := st) (x := x) (φ := [some (.str x), none]) rfl
        simp [runD, d_law_is_name, evSs, evS, evE, evL, ↓comp_eq, isTys, isTy, Ty.ofStr, h1', h8', hit, hl', ht', -List.map_map, -Array.mem_toList_iff, hall]
        have e8 : decide (x.length ≤ 8) = true := decide_eq_true h8
        have e1 : decide (1 ≤ x.length) = true := decide_eq_true h1
        simp only [isNm, e8, e1, Bool.true_and, List.all_map]
      · have h1' : 0 < x.length := by omega
        have h8' : ¬ (x.length : Int) < 9 := by omega
        simp [runD, d_law_is_name, evSs, evS, evE, evL, isTys, isTy, Ty.ofStr, h1', h8', isNm, h8]
    · have h1' : ¬ 0 < x.length := by omega
      simp [runD, d_law_is_name, evSs, evS, evE, evL, isTys, isTy, Ty.ofStr, h1', isNm, h1]
  | non => simp [runD, d_law_is_name, evSs, evS, evE, isTys, isTy, Ty.ofNone, isNm]
  | bl => simp [runD, d_law_is_name, evSs, evS, evE, isTys, isTy, Ty.ofBool, isNm]
  | int => simp [runD, d_law_is_name, evSs, evS, evE, isTys, isTy, Ty.ofInt, isNm]
  | tup => simp [runD, d_law_is_name, evSs, evS, evE, isTys, isTy, Ty.ofTup, isNm]
  | lst => simp [runD, d_law_is_name, evSs, evS, evE, isTys, isTy, Ty.ofLst, isNm]
  | _ => cases h
theorem hasDup_true {xs : List D} {i : Nat} (hi : i < xs.length) (h : dupAt xs i = true) : hasDup xs = true := by
  unfold hasDup
  rw [List.any_eq_true]
  exact ⟨i, List.mem_range.mpr hi, h⟩
theorem hasDup_false {xs : List D} (h : ∀ i < xs.length, dupAt xs i = false) : hasDup xs = false := by
  unfold hasDup
  rw [List.any_eq_false]
  intro i hi
  rw [h i (List.mem_range.mp hi)]
  exact Bool.false_ne_true
/-- what the law asks of a part -/
def gpt (deep : Bool) (p : D) : Bool := isNm p || (deep && thr isNm p)
theorem lawThr_run {C : Calls} {nm th : Nat} {deep : Bool} {st : Store} {d : D} (h : Tm d) (hn : ∀ d, Tm d → Pc C nm [d] (.bl (isNm d))) (hth : deep = true → ∀ d, Tm d → Pc C th [d, .bl false] (.bl (thr isNm d))) :
    En (runD C (d_law_is_threshold nm th) [d, .bl deep] st) fun r _ => r = .bl (thr (gpt deep) d) := by
  have tail : ∀ (c : Int) ps, d = .tup [.int c, .tup ps] → 1 ≤ c → c ≤ ps.length → En (runD C (d_law_is_threshold nm th) [d, .bl deep] st) fun r _ => r = .bl (thr (gpt deep) d) := fun c ps e c1 c2 => by
    subst e
    obtain ⟨hl, hg⟩ := h.parts
    have a1 : (true && ((plainL ps) && true)) = true := h.pl
    simp only [Bool.and_eq_true, Bool.true_and, and_true] at a1
    have a2 : max 0 (max (depL ps + 1) 0) + 1 ≤ 60 := h.dep
    have e1 : decide (1 ≤ c) = true := decide_eq_true c1
    have e2 : decide (c ≤ (ps.length : Int)) = true := decide_eq_true c2
    refine en_runD rfl ?_
    have c3 : (ps.length : Int) ≤ 1000000 := by omega
    have c4 : ps.length < 4611686018427387904 := by omega
    have c0 : (0 : Int) < c := by omega
    simp [d_law_is_threshold, evSs, evS, evE, evL, evO, ↓forw_eq, isTys, isTy, Ty.ofTup, Ty.ofInt, Ty.ofBool, bindT, bindTs, ixN, c0, c2, c3, c4]
    refine ws_forW (fun i φ s => φ = [some (.tup [.int c, .tup ps]), some (.bl deep), some (.int c), some (.tup ps), none, none] ∧ ∀ j < i, ∀ p, ps[j]? = some p → gpt deep p = true ∧ dupAt ps j = false) 0 ⟨rfl, fun j hj => absurd hj (Nat.not_lt_zero j)⟩ (fun j d φ s ed hh => ?_) fun φ s hh => ?_
    · obtain ⟨rfl, hprev⟩ := hh
      rw [Nat.zero_add] at hprev ⊢
      rw [List.getElem?_map] at ed
      have hj : j < ps.length := by
        cases er : (List.range ps.length)[j]? with
        | none => rw [er] at ed; cases ed
        | some k => simpa using (List.getElem?_eq_some_iff.mp er).1
      have ed2 : d = .int (j : Int) := by
        rw [List.getElem?_eq_getElem (by simpa using hj)] at ed
        have := Option.some.inj ed
        rw [← this]
        simp
      subst ed2
      have hx := List.getElem?_eq_getElem hj
      have hmem : ps[j] ∈ ps := List.getElem_mem hj
      have tp := hg _ hmem
      have i1 : ∀ s, idxD s (.tup ps) (.int (j : Int)) = some ps[j] := fun s => idx_of (k := j) rfl rfl hx
      have i2 : ∀ s, slcD s (.tup ps) none (some (j : Int)) = some (.tup (ps.take j)) := fun s => by
        show some (D.tup (cut ps none (some (j : Int)))) = _
        rw [cut_take _ _ (by omega)]
        congr 3
        omega
      have i3 := (in_plain (st := s) (x := ps[j]) (ys := ps.take j) (plainL_mem a1 hmem) (plainL_take j a1) tp.dep (Nat.le_trans (depL_take ps j) (by omega))).1
      have dj : dupAt ps j = (ps.take j).any fun z => peq z ps[j] := by
        unfold dupAt
        rw [hx]
      have n1 := hn _ tp
      have bad : gpt deep ps[j] = false ∨ dupAt ps j = true → thr (gpt deep) (.tup [.int c, .tup ps]) = false := fun hb => by
        show (decide (1 ≤ c) && (decide (c ≤ (ps.length : Int)) && ((ps.all (gpt deep)) && !hasDup ps))) = false
        rw [e1, e2]
        rcases hb with hb | hb
        · have : (ps.all (gpt deep)) = false := by
            rw [List.all_eq_false]
            exact ⟨_, hmem, by rw [hb]; exact Bool.false_ne_true⟩
          rw [this] <;> rfl
        · rw [hasDup_true hj hb]
          simp
      have good : gpt deep ps[j] = true → dupAt ps j = false → ∀ k < j + 1, ∀ p, ps[k]? = some p → gpt deep p = true ∧ dupAt ps k = false := fun g1 g2 k hk p hp => by
        rcases Nat.lt_succ_iff_lt_or_eq.mp hk with z | z
        · exact hprev k z p hp
        · subst z
          rw [hx] at hp
          cases hp
          exact ⟨g1, g2⟩
      cases g1 : isNm ps[j] with
      | true =>
        cases g2 : dupAt ps j with
        | true =>
          have hb := bad (.inr g2)
          have i4 := i3
          rw [← dj, g2] at i4
          simp [fbody, evSs, evS, evE, evL, evO, i1, i2, n1, g1, i4, hb]
        | false =>
          have gd := good (by unfold gpt; rw [g1] <;> rfl) g2
          have i4 := i3
          rw [← dj, g2] at i4
          simp [fbody, evSs, evS, evE, evL, evO, i1, i2, n1, g1, i4]
          exact gd
      | false =>
        cases deep with
        | false =>
          have hb := bad (.inl (by unfold gpt; rw [g1] <;> rfl))
          simp [fbody, evSs, evS, evE, evL, evO, i1, i2, n1, g1, hb]
        | true =>
          have t1 := hth rfl _ tp
          cases g3 : thr isNm ps[j] with
          | false =>
            have hb := bad (.inl (by unfold gpt; rw [g1, g3] <;> rfl))
            simp [fbody, evSs, evS, evE, evL, evO, i1, i2, n1, g1, t1, g3]
            exact hb
          | true =>
            cases g2 : dupAt ps j with
            | true =>
              have hb := bad (.inr g2)
              have i4 := i3
              rw [← dj, g2] at i4
              simp [fbody, evSs, evS, evE, evL, evO, i1, i2, n1, g1, t1, g3, i4]
              exact hb
              | false =>
              have gd := good (by unfold gpt; rw [g1, g3] <;> rfl) g2
              have i4 := i3
              rw [← dj, g2] at i4
              simp [fbody, evSs, evS, evE, evL, evO, i1, i2, n1, g1, t1, g3, i4]
              exact gd
    · obtain ⟨rfl, hprev⟩ := hh
      have all : (ps.all (gpt deep)) = true := by
        rw [List.all_eq_true]
        intro p hp
        obtain ⟨j, hj⟩ := List.mem_iff_getElem?.mp hp
        have hj2 := (List.getElem?_eq_some_iff.mp hj).1
        exact (hprev j (by simpa using hj2) p hj).1
      have nodup : hasDup ps = false := hasDup_false fun i hi => (hprev i (by simpa using hi) ps[i] (List.getElem?_eq_getElem hi)).2
      have e : thr (gpt deep) (.tup [.int c, .tup ps]) = true := by
        show (decide (1 ≤ c) && (decide (c ≤ (ps.length : Int)) && ((ps.all (gpt deep)) && !hasDup ps))) = true
        rw [e1, e2, all, nodup] <;> rfl
      simp [e]
  have no : ∀ d', thr (gpt deep) d' = false → En (runD C (d_law_is_threshold nm th) [d', .bl deep] st) (fun r _ => r = .bl false) → En (runD C (d_law_is_threshold nm th) [d', .bl deep] st) fun r _ => r = .bl (thr (gpt deep) d') := fun d' e q => by rw [e]; exact q
  match d, h, tail with
  | .tup [], _, _ => exact no _ rfl (en_runD rfl (by simp [d_law_is_threshold, evSs, evS, evE, evL, isTys, isTy, Ty.ofTup]))
  | .tup [a], _, _ => exact no _ (by cases a <;> rfl) (en_runD rfl (by simp [d_law_is_threshold, evSs, evS, evE, evL, isTys, isTy, Ty.ofTup]))
  | .tup (a :: b :: c :: r), _, _ => 
    have hne : ((r.length : Int) + 1 + 1 + 1 == 2) = false := by simpa using (by omega : (r.length : Int) + 1 + 1 + 1 ≠ 2)
    exact no _ (by cases a <;> cases b <;> rfl) (en_runD rfl (by simp [d_law_is_threshold, evSs, evS, evE, evL, isTys, isTy, Ty.ofTup, hne]))
  | .tup [a, b], h, tail =>
    have i1 : ∀ s, idxD s (.tup [a, b]) (.int 1) = some b := fun s => rfl
    by_cases hb : ∃ ps, b = .tup ps
    · obtain ⟨ps, rfl⟩ := hb
      by_cases ha : ∃ c, a = .int c
      · obtain ⟨c, rfl⟩ := ha
        by_cases c1 : 1 ≤ c
        · by_cases c2 : c ≤ (ps.length : Int)
          · exact tail c ps rfl c1 c2
          · have e : thr (gpt deep) (.tup [.int c, .tup ps]) = false := by
              show (decide (1 ≤ c) && (decide (c ≤ (ps.length : Int)) && _)) = false
              rw [decide_eq_false c2]
              simp
            have c0 : (0 : Int) < c := by omega
            exact no _ e (en_runD rfl (by simp [d_law_is_threshold, evSs, evS, evE, evL, isTys, isTy, Ty.ofTup, Ty.ofInt, Ty.ofBool, i1, bindT, bindTs, c0, c2]))
        · have e : thr (gpt deep) (.tup [.int c, .tup ps]) = false := by
            show (decide (1 ≤ c) && _) = false
            rw [decide_eq_false c1]
            rfl
          have c0 : ¬ (0 : Int) < c := by omega
          exact no _ e (en_runD rfl (by simp [d_law_is_threshold, evSs, evS, evE, evL, isTys, isTy, Ty.ofTup, Ty.ofInt, Ty.ofBool, i1, bindT, bindTs, c0]))
      · have e : thr (gpt deep) (.tup [a, .tup ps]) = false := by
          cases a <;> first | rfl | exact absurd ⟨_, rfl⟩ ha
        have pa : plain a = true := by
          have : (plain a && (plainL ps && true)) = true := h.pl
          simp only [Bool.and_eq_true] at this
          exact this.1
        refine no _ e (en_runD rfl ?_)
        cases a with
        | int c => exact absurd ⟨_, rfl⟩ ha
        | bl => simp [d_law_is_threshold, evSs, evS, evE, evL, isTys, isTy, Ty.ofTup, Ty.ofInt, Ty.ofBool, i1, bindT, bindTs]
        | non => simp [d_law_is_threshold, evSs, evS, evE, evL, isTys, isTy, Ty.ofTup, Ty.ofInt, Ty.ofBool, Ty.ofNone, i1, bindT, bindTs]
        | str => simp [d_law_is_threshold, evSs, evS, evE, evL, isTys, isTy, Ty.ofTup, Ty.ofInt, Ty.ofBool, Ty.ofStr, i1, bindT, bindTs]
        | tup => simp [d_law_is_threshold, evSs, evS, evE, evL, isTys, isTy, Ty.ofTup, Ty.ofInt, Ty.ofBool, i1, bindT, bindTs]
        | lst => simp [d_law_is_threshold, evSs, evS, evE, evL, isTys, isTy, Ty.ofTup, Ty.ofInt, Ty.ofBool, Ty.ofLst, i1, bindT, bindTs]
        | _ => cases pa
    · have e : thr (gpt deep) (.tup [a, b]) = false := by
        cases b <;> first | (exact absurd ⟨_, rfl⟩ hb) | (cases a <;> rfl)
      have pb : plain b = true := by
        have : (plain a && (plain b && true)) = true := h.pl
        simp only [Bool.and_eq_true] at this
        exact this.2.1
      refine no _ e (en_runD rfl ?_)
      cases b with
      | tup ps => exact absurd ⟨_, rfl⟩ hb
      | int => simp [d_law_is_threshold, evSs, evS, evE, evL, isTys, isTy, Ty.ofTup, Ty.ofInt, i1]
      | bl => simp [d_law_is_threshold, evSs, evS, evE, evL, isTys, isTy, Ty.ofTup, Ty.ofBool, i1]
      | non => simp [d_law_is_threshold, evSs, evS, evE, evL, isTys, isTy, Ty.ofTup, Ty.ofNone, i1]
      | str => simp [d_law_is_threshold, evSs, evS, evE, evL, isTys, isTy, Ty.ofTup, Ty.ofStr, i1]
      | lst => simp [d_law_is_threshold, evSs, evS, evE, evL, isTys, isTy, Ty.ofTup, Ty.ofLst, i1]
      | _ => cases pb
  | .non, _, _ => exact no _ rfl (en_runD rfl (by simp [d_law_is_threshold, evSs, evS, evE, evL, isTys, isTy, Ty.ofTup, Ty.ofNone]))
  | .bl _, _, _ => exact no _ rfl (en_runD rfl (by simp [d_law_is_threshold, evSs, evS, evE, evL, isTys, isTy, Ty.ofTup, Ty.ofBool]))
  | .int _, _, _ => exact no _ rfl (en_runD rfl (by simp [d_law_is_threshold, evSs, evS, evE, evL, isTys, isTy, Ty.ofTup, Ty.ofInt]))
  | .str _, _, _ => exact no _ rfl (en_runD rfl (by simp [d_law_is_threshold, evSs, evS, evE, evL, isTys, isTy, Ty.ofTup, Ty.ofStr]))
  | .lst _, _, _ => exact no _ rfl (en_runD rfl (by simp [d_law_is_threshold, evSs, evS, evE, evL, isTys, isTy, Ty.ofTup, Ty.ofLst]))
  | .ref _, h, _ => exact nomatch h.pl
  | .fn _, h, _ => exact nomatch h.pl
  | .scr _, h, _ => exact nomatch h.pl
  | .dct _ _, h, _ => exact nomatch h.pl
  | .obj _ _ _, h, _ => exact nomatch h.pl
def LawIsNmOk (C : Calls) (f : Nat) : Prop := ∀ d, plain d = true → Pc C f [d] (.bl (isNm d))
theorem lawIsNm_ok {P : Defs} {n f : Nat} (hf : P[f]? = some d_law_is_name) : LawIsNmOk (callN P (n + 1)) f := fun d h => Pc.run hf ⟨_, _, lawIsName_run _ h, rfl⟩ (by simp [plain_nr h]) rfl
def LawThr0Ok (C : Calls) (f : Nat) : Prop := ∀ d, Tm d → Pc C f [d, .bl false] (.bl (thr isNm d))
def LawThr1Ok (C : Calls) (f : Nat) : Prop := ∀ d, Tm d → Pc C f [d, .bl true] (.bl (thr isPt d))
theorem gpt_false : gpt false = isNm := by funext d; simp [gpt]
theorem gpt_true : gpt true = isPt := by funext d; simp [gpt, isPt]
theorem lawThr0_ok {P : Defs} {n f nm : Nat} (hf : P[f]? = some (d_law_is_threshold nm f)) (h1 : LawIsNmOk (callN P n) nm) : LawThr0Ok (callN P (n + 1)) f := fun d h => Pc.run hf (by
  have := lawThr_run (deep := false) (st := st0) (C := callN P n) (nm := nm) (th := f) h (fun d h => h1 d h.pl) (fun e => by cases e)
  rwa [gpt_false] at this) (by simp [plain_nr h.pl]) rfl
theorem lawThr1_ok {P : Defs} {n f nm : Nat} (hf : P[f]? = some (d_law_is_threshold nm f)) (h1 : LawIsNmOk (callN P n) nm) (h2 : LawThr0Ok (callN P n) f) : LawThr1Ok (callN P (n + 1)) f := fun d h => Pc.run hf (by
  have := lawThr_run (deep := true) (st := st0) (C := callN P n) (nm := nm) (th := f) h (fun d h => h1 d h.pl) (fun _ => h2)
  rwa [gpt_true] at this) (by simp [plain_nr h.pl]) rfl
mutual
/-- built of None, truth values, whole numbers, texts of ASCII, tuples and lists -/
def asc : D → Bool
  | .tup xs => ascL xs
  | .lst xs => ascL xs
  | .str x => x.cps.all (· < 128)
  | .non => true
  | .bl _ => true
  | .int _ => true
  | _ => false
def ascL : List D → Bool
  | [] => true
  | x :: xs => asc x && ascL xs
end
mutual
def sz : D → Nat
  | .tup xs => szL xs + 1
  | .lst xs => szL xs + 1
  | .str x => x.length + 1
  | _ => 1
def szL : List D → Nat
  | [] => 0
  | x :: xs => sz x + szL xs
end
theorem sz_pos (d : D) : 1 ≤ sz d := by cases d <;> first | exact Nat.le_refl _ | exact Nat.succ_le_succ (Nat.zero_le _)
theorem szL_len : ∀ xs : List D, xs.length ≤ szL xs
  | [] => Nat.le_refl _
  | x :: xs => by
    have := sz_pos x
    have := szL_len xs
    show xs.length + 1 ≤ sz x + szL xs
    omega
mutual
theorem asc_plain : ∀ d : D, asc d = true → plain d = true
  | .tup xs, h => ascL_plain xs h
  | .lst xs, h => ascL_plain xs h
  | .str _, _ => rfl
  | .non, _ => rfl
  | .bl _, _ => rfl
  | .int _, _ => rfl
  | .ref _, h => nomatch h
  | .fn _, h => nomatch h
  | .scr _, h => nomatch h
  | .dct _ _, h => nomatch h
  | .obj _ _ _, h => nomatch h
theorem ascL_plain : ∀ xs : List D, ascL xs = true → plainL xs = true
  | [], _ => rfl
  | x :: xs, h => by
    have h' : (asc x && ascL xs) = true := h
    rw [Bool.and_eq_true] at h'
    show (plain x && plainL xs) = true
    rw [asc_plain x h'.1, ascL_plain xs h'.2] <;> rfl
end
mutual
theorem sz_tame : ∀ d : D, sz d ≤ 1000000 → tame d = true
  | .tup xs, h => by
    have h' : szL xs + 1 ≤ 1000000 := h
    have := szL_len xs
    show (decide (xs.length ≤ 1000000) && tameL xs) = true
    rw [szL_tame xs (by omega), decide_eq_true (by omega)] <;> rfl
  | .lst xs, h => by
    have h' : szL xs + 1 ≤ 1000000 := h
    have := szL_len xs
    show (decide (xs.length ≤ 1000000) && tameL xs) = true
    rw [szL_tame xs (by omega), decide_eq_true (by omega)] <;> rfl
  | .str _, _ => rfl
  | .non, _ => rfl
  | .bl _, _ => rfl
  | .int _, _ => rfl
  | .ref _, _ => rfl
  | .fn _, _ => rfl
  | .scr _, _ => rfl
  | .dct _ _, _ => rfl
  | .obj _ _ _, _ => rfl
theorem szL_tame : ∀ xs : List D, szL xs ≤ 1000000 → tameL xs = true
  | [], _ => rfl
  | x :: xs, h => by
    have h' : sz x + szL xs ≤ 1000000 := h
    show (tame x && tameL xs) = true
    rw [sz_tame x (by omega), szL_tame xs (by omega)] <;> rfl
end
theorem sz_listed (c : Int) (ps : List Pt) : listed ps ≤ sz (rqD c ps) := by
  have h1 : ∀ xs : List Str, xs.length ≤ szL (xs.map D.str) := fun xs => by
    have := szL_len (xs.map D.str)
    rwa [List.length_map] at this
  have h2 : listed ps ≤ szL (ps.map Pt.d) := by
    induction ps with
    | nil => exact Nat.le_refl _
    | cons p r ih =>
      have e : listed (p :: r) = p.names.length + listed r := by simp [listed]
      rw [e]
      show _ ≤ sz p.d + szL (r.map Pt.d)
      have : p.names.length ≤ sz p.d := by
        cases p with
        | nm x => exact sz_pos _
        | in_ e xs =>
          show xs.length ≤ (1 + ((szL (xs.map D.str) + 1) + 0)) + 1
          have := h1 xs
          omega
      omega
  show listed ps ≤ (1 + ((szL (ps.map Pt.d) + 1) + 0)) + 1
  omega
/-- data of a size -/
structure Da (n m : Nat) (d : D) : Prop where
  as : asc d = true
  dp : dep d ≤ n
  sz : sz d ≤ m
theorem Da.tm {n m : Nat} {d : D} (h : Da n m d) (hn : n ≤ 60) (hm : m ≤ 1000000) : Tm d := ⟨asc_plain d h.as, Nat.le_trans h.dp hn, sz_tame d (Nat.le_trans h.sz hm)⟩
end OM
namespace OM
open PySem (Str)
theorem Pt.d_inj {a b : Pt} (h : a.d = b.d) : a = b := by
  have e := peq_ptD a b
  rw [h] at e
  have p : peq b.d b.d = true := by rw [peq_ptD]; simp
  rw [p] at e
  exact of_decide_eq_true e.symm
theorem rqD_inj {c c' : Int} {ps ps' : List Pt} (h : rqD c ps = rqD c' ps') : c = c' ∧ ps = ps' := by
  have h' : D.tup [.int c, .tup (ps.map Pt.d)] = .tup [.int c', .tup (ps'.map Pt.d)] := h
  simp only [D.tup.injEq, List.cons.injEq, D.int.injEq, and_true] at h'
  exact ⟨h'.1, (List.map_inj_right fun a b => Pt.d_inj).mp h'.2⟩
/-- what is_requirement says -/
noncomputable def isRq (d : D) : Bool := @decide (∃ c ps, d = rqD c ps ∧ Vq c ps ∧ fewB ps = true) (Classical.propDecidable _)
theorem isRq_iff {d : D} : isRq d = true ↔ ∃ c ps, d = rqD c ps ∧ Vq c ps ∧ fewB ps = true := by simp [isRq]
theorem isRq_rq {c : Int} {ps : List Pt} (v : Vq c ps) : isRq (rqD c ps) = fewB ps := by
  rw [Bool.eq_iff_iff, isRq_iff]
  constructor
  · rintro ⟨c', ps', e, _, w⟩
    rw [(rqD_inj e).2]; exact w
  · exact fun w => ⟨c, ps, rfl, v, w⟩
theorem isRq_thr {d : D} (e : thr isPt d = false) : isRq d = false := by
  rw [Bool.eq_false_iff]
  intro z
  obtain ⟨c, ps, rfl, v, _⟩ := isRq_iff.mp z
  rw [vq_thr v] at e
  cases e
theorem IsReqOk.says {C : Calls} {f : Nat} (h : IsReqOk C f) {d : D} (t : Tm d) (hl : ∀ c ps, d = rqD c ps → listed ps ≤ 1000) : Pc C f [d] (.bl (isRq d)) := by
  cases e : thr isPt d with
  | false => rw [isRq_thr e]; exact h.no d t.pl t.dep t.tm e
  | true =>
    obtain ⟨c, ps, rfl, v⟩ := thr_vq e
    rw [isRq_rq v]
    exact h.yes c ps v (hl c ps rfl) t.tm
/-- a row -/
def rxD (p : D × D) : D := .tup [p.1, p.2]
structure RxOk (p : D × D) : Prop where
  n : Tm p.1
  r : Tm p.2
  l : ∀ c ps, p.2 = rqD c ps → listed ps ≤ 1000
def encR (p : Str × Rt) : D × D := (.str p.1, Rt.d p.2)
/-- what the rows' first walk raises -/
noncomputable def due1 : List Str → List (D × D) → Option Xc
  | _, [] => none
  | seen, p :: t => if isNm p.1 = true then (match p.1 with
      | .str x => if x ∈ seen then some ⟨"DuplicateNode", ["name"], [.str x]⟩ else if isRq p.2 = true then due1 (seen ++ [x]) t else some ⟨"InvalidRequirement", ["name"], [.str x]⟩
      | _ => none) else some ⟨"InvalidName", ["value"], [p.1]⟩
/-- .. the second -/
def due2 (rs : Rows) : Option Str := rs.findSome? fun p => (nodeSet (flat p.2.2)).find? fun u => !decide (u ∈ rs.ks)
/-- rows that stand the first walk -/
structure GoodR (rs : Rows) : Prop where
  nd : rs.ks.Nodup
  nm : ∀ x ∈ rs.ks, isNm (.str x) = true
  vq : ∀ p ∈ rs, Vq p.2.1 p.2.2
  few : ∀ p ∈ rs, fewB p.2.2 = true
inductive MkRes (rows : List (D × D)) : Except Xc D → Prop
  | bad {x : Xc} (h : due1 [] rows = some x) : MkRes rows (.error x)
  | unk {rs : Rows} {u : Str} (g : GoodR rs) (e : rows = rs.map encR) (h : due2 rs = some u) : MkRes rows (.error ⟨"UnknownNode", ["name"], [.str u]⟩)
  | ok {rs : Rows} (g : GoodR rs) (e : rows = rs.map encR) (h : due2 rs = none) : MkRes rows (.ok (netD (sortR rs)))
theorem nm_str {d : D} (h : isNm d = true) : ∃ x, d = .str x := by
  cases d <;> first | exact ⟨_, rfl⟩ | cases h
theorem few_listed {ps : List Pt} (h : fewB ps = true) : listed ps ≤ 12 := by
  unfold fewB at h
  rw [Bool.and_eq_true, decide_eq_true_eq] at h
  exact h.1
theorem GoodR.snoc {rs : Rows} (g : GoodR rs) {x : Str} {c : Int} {ps : List Pt} (h1 : isNm (.str x) = true) (h2 : x ∉ rs.ks) (h3 : Vq c ps) (h4 : fewB ps = true) : GoodR (rs ++ [(x, (c, ps))]) where
  nd := by
    show ((rs ++ [(x, (c, ps))]).map (·.1)).Nodup
    rw [List.map_append]
    refine List.nodup_append.mpr ⟨g.nd, by simp, fun a ha b hb z => ?_⟩
    have : b = x := by simpa using hb
    exact h2 (this ▸ z ▸ ha)
  nm := fun y hy => by
    have hy' : y ∈ (rs ++ [(x, (c, ps))]).map (·.1) := hy
    rw [List.map_append, List.mem_append] at hy'
    rcases hy' with hy' | hy'
    · exact g.nm y hy'
    · have : y = x := by simpa using hy'
      rw [this]; exact h1
  vq := fun p hp => by
    rcases List.mem_append.mp hp with hp | hp
    · exact g.vq p hp
    · have : p = (x, (c, ps)) := by simpa using hp
      rw [this]; exact h3
  few := fun p hp => by
    rcases List.mem_append.mp hp with hp | hp
    · exact g.few p hp
    · have : p = (x, (c, ps)) := by simpa using hp
      rw [this]; exact h4
/-- one row more that stands -/
theorem due1_step {seen : List Str} {x : Str} {r : D} {t : List (D × D)} (h1 : isNm (.str x) = true) (h2 : x ∉ seen) (h3 : isRq r = true) : due1 seen ((.str x, r) :: t) = due1 (seen ++ [x]) t := by
  simp [due1, h1, h2, h3]
theorem find_none {p : Str → Bool} {l : List Str} (h : ∀ u ∈ l, p u = false) : l.find? p = none := List.find?_eq_none.mpr fun u hu => by simp [h u hu]
def AllIn (rs l : Rows) : Prop := ∀ q ∈ l, ∀ u ∈ nodeSet (flat q.2.2), u ∈ rs.ks
def InK (rs : Rows) (l : List Str) : Prop := ∀ u ∈ l, u ∈ rs.ks
theorem InK.snoc {rs : Rows} {l : List Str} {u : Str} (h : InK rs l) (hu : u ∈ rs.ks) : InK rs (l ++ [u]) := fun z hz => by
  rcases List.mem_append.mp hz with hz | hz
  · exact h z hz
  · rw [List.mem_singleton] at hz
    rw [hz]; exact hu
theorem AllIn.snoc {rs l : Rows} {p : Str × Rt} (h : AllIn rs l) (hu : InK rs (nodeSet (flat p.2.2))) : AllIn rs (l ++ [p]) := fun q hq => by
  rcases List.mem_append.mp hq with hq | hq
  · exact h q hq
  · rw [List.mem_singleton] at hq
    rw [hq]; exact hu
section
variable {C : Calls} {nm rq ni : Nat} {rows : List (D × D)} {d : D}
theorem init_any (h1 : IsNameOk C nm) (h2 : IsReqOk C rq) (h3 : NamesInOk C ni) (hr : ∀ p ∈ rows, RxOk p) (hl : rows.length ≤ 4000) (hd : d = .lst (rows.map rxD) ∨ d = .tup (rows.map rxD)) {s1 : Store} (hn : s1.next = 1) (hg : s1.get 0 = some (.obj "Network" [] [])) :
    EX (runD C (dNetInit nm rq ni) [.ref 0, d] s1) (fun r st' => r = .non ∧ ∃ rs, GoodR rs ∧ rows = rs.map encR ∧ due2 rs = none ∧ st'.get 0 = some (.obj "Network" ["requirements"] [dctD (sortR rs)])) (fun x _ => MkRes rows (.error x)) := by
  have hit : itemsOf d = some (rows.map rxD) := by rcases hd with rfl | rfl <;> rfl
  refine ex_runD rfl ?_
  simp [dNetInit, evSs, evS, evE, evL, ↓forw_eq, ↓dcomp_eq, hit, hn]
  refine wx_forW2 (fun i φ s => ∃ rs : Rows, rows.take i = rs.map encR ∧ GoodR rs ∧ due1 [] rows = due1 rs.ks (rows.drop i) ∧ ∃ a b, φ = [some (.ref 0), some d, some (.ref 1), a, b, none] ∧ s.get 0 = some (.obj "Network" [] []) ∧ s.get 1 = some (.dct rs.ks rs.vs)) (by
    rintro i φ s ⟨rs, e1, e2, e3, a, b, rfl, r⟩
    exact ⟨rs, e1, e2, e3, a, none, rfl, r⟩) 0 ⟨[], by simp, ⟨by simp, by simp, by simp, by simp⟩, by simp, none, none, rfl, ?_, ?_⟩ (fun j x φ s ed h => ?_) fun φ s h => ?_
  · rw [new_get_ne (by omega)]; exact hg
  · have := new_get_same (st := s1) (o := .dct [] [])
    rw [hn] at this
    simpa using this
  · obtain ⟨rs, e1, gr, e3, a, b, rfl, g0, g1⟩ := h
    rw [Nat.zero_add] at e1 e3 ⊢
    rw [List.getElem?_map] at ed
    cases ep : rows[j]? with
    | none => rw [ep] at ed; cases ed
    | some p =>
      rw [ep] at ed
      obtain rfl : rxD p = x := Option.some.inj ed
      have hj := (List.getElem?_eq_some_iff.mp ep).1
      have hp : rows[j] = p := (List.getElem?_eq_some_iff.mp ep).2
      have R := hr p (List.mem_of_getElem? ep)
      have dr : rows.drop j = p :: rows.drop (j + 1) := by rw [← hp, ← List.drop_eq_getElem_cons hj]
      have tk : rows.take (j + 1) = rows.take j ++ [p] := by rw [List.take_succ_eq_append_getElem hj, hp]
      rw [dr] at e3
      obtain ⟨n, r⟩ := p
      have c1 := h1.pc (d := n) R.n.pl
      have bt : ∀ (st : Store) (φ : Fr), bindT st (.tp [.nm 3, .nm 4]) (rxD (n, r)) φ = some ((φ.set 3 (some n)).set 4 (some r)) := fun _ _ => rfl
      have hlen : rs.ks.length < 4096 := by
        have e := congrArg List.length e1
        rw [List.length_map, List.length_take] at e
        rw [List.length_map]
        omega
      cases hn1 : isNm n with
      | false =>
        rw [hn1] at c1
        simp [fbody, evSs, evS, evE, evL, bt, c1]
        refine .bad ?_
        rw [e3]
        unfold due1
        rw [if_neg (by rw [hn1]; exact Bool.false_ne_true)]
      | true =>
        obtain ⟨x, rfl⟩ := nm_str hn1
        rw [hn1] at c1
        have hin := in_dref (x := x) g1
        by_cases hx : x ∈ rs.ks
        · simp [fbody, evSs, evS, evE, evL, bt, c1, hin, hx]
          refine .bad ?_
          rw [e3]
          unfold due1
          rw [if_pos hn1]
          dsimp only
          rw [if_pos hx]
        · have c2 := h2.says R.r R.l
          cases hq : isRq r with
          | false =>
            have c2' : Pc C rq [r] (.bl false) := by rw [← hq]; exact c2
            simp [fbody, evSs, evS, evE, evL, bt, c1, hin, hx, c2']
            refine .bad ?_
            rw [e3]
            unfold due1
            rw [if_pos hn1]
            dsimp only
            rw [if_neg hx, if_neg (by rw [hq]; exact Bool.false_ne_true)]
          | true =>
            have c2' : Pc C rq [r] (.bl true) := by rw [← hq]; exact c2
            obtain ⟨c, ps, rfl, v, w⟩ := isRq_iff.mp hq
            have hpt := put_dref (x := x) (d := rqD c ps) g1 hlen
            have k1 : putN rs.ks x = Rows.ks (rs ++ [(x, (c, ps))]) := by
              unfold putN
              rw [if_neg hx]
              simp
            have k2 : putV rs.ks rs.vs x (rqD c ps) = Rows.vs (rs ++ [(x, (c, ps))]) := by
              unfold putV
              rw [if_neg hx]
              simp [Rt.d]
            rw [k1, k2] at hpt
            simp [fbody, evSs, evS, evE, evL, bt, c1, hin, hx, c2', -Rows.ks, -Rows.vs, -List.map_append]
            rw [hpt]
            refine ⟨rs ++ [(x, (c, ps))], ?_, gr.snoc hn1 hx v w, ?_, ⟨_, _, rfl⟩, ?_, ?_⟩
            · rw [tk, e1, List.map_append]; rfl
            · rw [e3, due1_step hn1 hx hq]
              simp
            · rw [put_get_if, if_neg (by decide)]; exact g0
            · rw [put_get_if, if_pos rfl]
  · obtain ⟨rs, e1, gr, e3, a, b, rfl, g0, g1⟩ := h
    rw [Nat.zero_add, List.length_map, List.take_length] at e1
    have hrl : rs.length ≤ 4000 := by
      have e := congrArg List.length e1
      rw [List.length_map] at e
      omega
    have g0' : (s.put 1 none).get 0 = some (.obj "Network" [] []) := by rw [put_get_if, if_neg (by decide)]; exact g0
    simp [g1]
    generalize s.put 1 none = s2 at g0'
    show WXc (forW [5] _ (rs.ks.map .str) [some (.ref 0), some d, some (dctD rs), a, b, none] s2) _ _ _ _ _
    have unk : ∀ (j : Nat) (p : Str × Rt) (u : Str) (pre post : List Str), rs[j]? = some p → AllIn rs (rs.take j) → nodeSet (flat p.2.2) = pre ++ u :: post → InK rs pre → u ∉ rs.ks → due2 rs = some u := by
      intro j p u pre post ej hb ed hp hu
      have hj := (List.getElem?_eq_some_iff.mp ej).1
      have hpe : rs[j] = p := (List.getElem?_eq_some_iff.mp ej).2
      have er : rs = rs.take j ++ p :: rs.drop (j + 1) := by rw [← hpe, ← List.drop_eq_getElem_cons hj, List.take_append_drop]
      have key : (rs.take j ++ p :: rs.drop (j + 1)).findSome? (fun p => (nodeSet (flat p.2.2)).find? fun u => !decide (u ∈ rs.ks)) = some u := by
        rw [List.findSome?_append, List.findSome?_eq_none_iff.mpr fun q hq => find_none fun y hy => by simp [hb q hq y hy]]
        rw [Option.none_or, List.findSome?_cons, ed, List.find?_append, find_none fun y hy => by simp [hp y hy]]
        simp [hu]
      unfold due2
      rw [← er] at key
      exact key
    refine wx_forW2 (fun i φ s => s = s2 ∧ AllIn rs (rs.take i) ∧ ∃ a b e, φ = [some (.ref 0), some d, some (dctD rs), a, b, e]) (by
      rintro i φ s ⟨rfl, h, a, b, e, rfl⟩
      exact ⟨rfl, h, a, b, none, rfl⟩) 0 ⟨rfl, (fun q hq => by simp at hq), a, b, none, rfl⟩ (fun j x φ s ed h => ?_) fun φ s h => ?_
    · obtain ⟨rfl, hb, a, b, e, rfl⟩ := h
      rw [Nat.zero_add] at hb ⊢
      rw [List.getElem?_map, List.getElem?_map] at ed
      cases ep : rs[j]? with
      | none => rw [ep] at ed; cases ed
      | some p =>
        rw [ep] at ed
        obtain rfl : D.str p.1 = x := Option.some.inj ed
        have hmem : p ∈ rs := List.mem_of_getElem? ep
        have hj := (List.getElem?_eq_some_iff.mp ep).1
        have hpe : rs[j] = p := (List.getElem?_eq_some_iff.mp ep).2
        have hi : idxD s (dctD rs) (.str p.1) = some (Rt.d p.2) := idx_dctD (reqAt_mem gr.nd hmem)
        have c3 : Pc C ni [Rt.d p.2] _ := h3 p.2.1 p.2.2 (by have := few_listed (gr.few p hmem); omega)
        simp [fbody, evSs, evS, evE, evL, ↓forw_eq, hi, c3]
        refine wx_forW2 (fun i φ s' => s' = s ∧ InK rs ((nodeSet (flat p.2.2)).take i) ∧ ∃ e, φ = [some (.ref 0), some d, some (dctD rs), some (.str p.1), b, e]) (by
          rintro i φ s' ⟨rfl, h, e, rfl⟩
          exact ⟨rfl, h, none, rfl⟩) 0 ⟨rfl, (fun q hq => by simp at hq), _, rfl⟩ (fun k y φ s' ed2 h => ?_) fun φ s' h => ?_
        · obtain ⟨rfl, hu, e, rfl⟩ := h
          rw [Nat.zero_add] at hu ⊢
          rw [List.getElem?_map] at ed2
          cases eu : (nodeSet (flat p.2.2))[k]? with
          | none => rw [eu] at ed2; cases ed2
          | some u =>
            rw [eu] at ed2
            obtain rfl : D.str u = y := Option.some.inj ed2
            have hk := (List.getElem?_eq_some_iff.mp eu).1
            have hke : (nodeSet (flat p.2.2))[k] = u := (List.getElem?_eq_some_iff.mp eu).2
            by_cases hx : u ∈ rs.ks
            · simp [fbody, evSs, evS, evE, evL, hx]
              rw [List.take_succ_eq_append_getElem hk, hke]
              exact hu.snoc hx
            · simp [fbody, evSs, evS, evE, evL, hx]
              have eN : nodeSet (flat p.2.2) = (nodeSet (flat p.2.2)).take k ++ u :: (nodeSet (flat p.2.2)).drop (k + 1) := by
                rw [← hke, ← List.drop_eq_getElem_cons hk, List.take_append_drop]
              exact .unk gr e1 (unk j p u _ _ ep hb eN hu hx)
        · obtain ⟨rfl, hu, e, rfl⟩ := h
          rw [Nat.zero_add, List.length_map, List.take_length] at hu
          refine ⟨rfl, ?_, _, _, _, rfl⟩
          rw [List.take_succ_eq_append_getElem hj, hpe]
          exact hb.snoc hu
    · obtain ⟨rfl, hb, a, b, e, rfl⟩ := h
      rw [Nat.zero_add, List.length_map, List.length_map, List.take_length] at hb
      have hll : rs.ks.length ≤ line := by
        rw [List.length_map]
        exact Nat.le_trans hrl (by decide)
      have hlt : ((sortT rs.ks).map D.str).length < line := by
        rw [List.length_map, sortT_len, List.length_map]
        exact Nat.lt_of_le_of_lt hrl (by decide)
      have nds : (sortR rs).ks.Nodup := by rw [sortR_ks]; exact sortT_nodup.mpr gr.nd
      have tn : ∀ φ : Fr, φ = [some (.ref 0), some d, some (dctD rs), a, b, e] → turnsD (dbody C (.nm 3) none (.var 3) (.idx (.var 2) (.var 3)) φ) ((sortT rs.ks).map .str) [] [] s = ok ((sortR rs).ks, (sortR rs).vs) s := by
        rintro φ rfl
        rw [← sortR_ks, show ((sortR rs).ks.map D.str) = (sortR rs).map (fun p => D.str p.1) from by simp]
        rw [turnsD_of (kf := fun p : Str × Rt => p.1) (vf := fun p => Rt.d p.2)]
        · rfl
        · intro p hp
          have hi : idxD s (dctD rs) (.str p.1) = some (Rt.d p.2) := idx_dctD (reqAt_mem gr.nd ((sortR_perm rs).mem_iff.mp hp))
          simp [dbody, evC, evE, hi]
        · exact nds
      have hd2 : itemsOf (.lst ((sortT rs.ks).map .str)) = some ((sortT rs.ks).map .str) := rfl
      have hs := sorted_strs (st := s) hll
      rw [List.map_map] at hs
      simp
      refine ⟨_, hs, ?_⟩
      rw [hd2]
      dsimp only
      rw [if_pos hlt, tn _ rfl]
      have hset : setfD s ["Network"] (.ref 0) "requirements" (D.dct (sortR rs).ks (sortR rs).vs) = some (s.put 0 (some (.obj "Network" ["requirements"] [dctD (sortR rs)]))) := by
        simp only [setfD, g0']
        rw [if_pos ⟨List.mem_cons_self .., by decide⟩]
        rfl
      simp [hset]
      refine ⟨rs, gr, e1, ?_, rfl⟩
      unfold due2
      exact List.findSome?_eq_none_iff.mpr fun q hq => find_none fun y hy => by simp [hb q hq y hy]
end
/-- what makes networks, of any rows -/
def MakeAny (C : Calls) (f : Nat) : Prop := ∀ (rows : List (D × D)) (d : D), (∀ p ∈ rows, RxOk p) → rows.length ≤ 4000 → (d = .lst (rows.map rxD) ∨ d = .tup (rows.map rxD)) → ∃ r, MkRes rows r ∧ ∀ st, makeK true (C f) "Network" [d] st = resX r st
theorem mk_nr {rows : List (D × D)} {r : Except Xc D} (hr : ∀ p ∈ rows, RxOk p) (h : MkRes rows r) : nrX r = true := by
  cases h with
  | bad h =>
    have : ∀ (rows : List (D × D)) (seen : List Str) (x : Xc), (∀ p ∈ rows, RxOk p) → due1 seen rows = some x → nrL x.fv = true := by
      intro rows
      induction rows with
      | nil => intro seen x _ h; cases h
      | cons p t ih =>
        intro seen x hr h
        unfold due1 at h
        split at h
        · split at h
          · split at h
            · cases h; rfl
            · split at h
              · exact ih _ _ (fun q hq => hr q (.tail _ hq)) h
              · cases h; rfl
          · cases h
        · cases h
          simp [plain_nr (hr p (.head _)).n.pl]
    exact this rows [] _ hr h
  | unk => rfl
  | ok => simp [nrX]
theorem makeAny_ok {P : Defs} {n f nm rq ni : Nat} (hf : P[f]? = some (dNetInit nm rq ni)) (h1 : IsNameOk (callN P n) nm) (h2 : IsReqOk (callN P n) rq) (h3 : NamesInOk (callN P n) ni) : MakeAny (callN P (n + 1)) f := fun rows d hr hl hd => by
  have hnr : nr d = true := by
    have : nrL (rows.map rxD) = true := nrL_map fun p hp => by
      simp [rxD, plain_nr (hr p hp).n.pl, plain_nr (hr p hp).r.pl]
    rcases hd with rfl | rfl <;> simpa using this
  have q := init_any (C := callN P n) h1 h2 h3 hr hl hd (s1 := st0.new (.obj "Network" [] [])) rfl rfl
  have run : EX (makeP (callN P (n + 1) f) "Network" [d] st0) (fun d' _ => MkRes rows (.ok d')) (fun x _ => MkRes rows (.error x)) := by
    show EX (((callN P (n + 1) f [.ref 0, d] (st0.new (.obj "Network" [] []))).bind _).bind _) _ _
    rw [call_run hf, ex_bind, ex_bind]
    refine q.imp (fun r s h => ?_) fun _ _ h => h
    obtain ⟨rfl, rs, g1, g2, g3, g4⟩ := h
    show EX (match s.get 0 with
      | some (.obj c fn fv) => ok (D.obj c fn fv) (s.put 0 none)
      | _ => none) _ _
    rw [g4]
    exact MkRes.ok g1 g2 g3
  cases e : makeP (callN P (n + 1) f) "Network" [d] st0 with
  | none => rw [e] at run; exact run.elim
  | some o =>
    rw [e] at run
    cases o with
    | ok d' s =>
      have run' : MkRes rows (.ok d') := run
      exact ⟨.ok d', run', pure_ofX (by rw [e]; exact rfl) (by simp [hnr]) (mk_nr hr run')⟩
    | exc x s =>
      have run' : MkRes rows (.error x) := run
      exact ⟨.error x, run', pure_ofX (by rw [e]; exact rfl) (by simp [hnr]) (mk_nr hr run')⟩
theorem encR_inj {p q : Str × Rt} (h : encR p = encR q) : p = q := by
  obtain ⟨x, c, ps⟩ := p
  obtain ⟨y, c', ps'⟩ := q
  have h' : (D.str x, rqD c ps) = (D.str y, rqD c' ps') := h
  obtain ⟨h1, h2⟩ := Prod.mk.inj h'
  cases h1
  obtain ⟨rfl, rfl⟩ := rqD_inj h2
  rfl
theorem due1_good : ∀ {rs : Rows} {seen : List Str}, (∀ p ∈ rs, isNm (.str p.1) = true ∧ isRq (Rt.d p.2) = true) → (seen ++ rs.ks).Nodup → due1 seen (rs.map encR) = none
  | [], _, _, _ => rfl
  | p :: rs, seen, h, nd => by
    have nd' : (seen ++ [p.1] ++ Rows.ks rs).Nodup := by simpa using nd
    have hx : p.1 ∉ seen := fun z => (List.nodup_append.mp nd).2.2 _ z _ (List.mem_cons_self ..) rfl
    show due1 seen ((D.str p.1, Rt.d p.2) :: rs.map encR) = none
    rw [due1_step (h p (.head _)).1 hx (h p (.head _)).2]
    exact due1_good (fun q hq => h q (.tail _ hq)) nd'
theorem GoodR.due1 {rs : Rows} (g : GoodR rs) : OM.due1 [] (rs.map encR) = none :=
  due1_good (fun p hp => ⟨g.nm _ (List.mem_map_of_mem hp), by rw [show Rt.d p.2 = rqD p.2.1 p.2.2 from rfl, isRq_rq (g.vq p hp)]; exact g.few p hp⟩) (by simpa using g.nd)
/-- what comes of the making: an exception, or none -/
inductive Due (rows : List (D × D)) : Option Xc → Prop
  | bad {x : Xc} (h : due1 [] rows = some x) : Due rows (some x)
  | unk {rs : Rows} {u : Str} (g : GoodR rs) (e : rows = rs.map encR) (h : due2 rs = some u) : Due rows (some ⟨"UnknownNode", ["name"], [.str u]⟩)
  | ok {rs : Rows} (g : GoodR rs) (e : rows = rs.map encR) (h : due2 rs = none) : Due rows none
theorem Due.uniq {rows : List (D × D)} {a b : Option Xc} (h : Due rows a) (k : Due rows b) : a = b := by
  have inj : ∀ {rs qs : Rows}, rs.map encR = qs.map encR → rs = qs := fun e => (List.map_inj_right fun _ _ => encR_inj).mp e
  cases h with
  | bad h => cases k with
    | bad k => rw [h] at k; exact k
    | unk g e k => rw [e, g.due1] at h; cases h
    | ok g e k => rw [e, g.due1] at h; cases h
  | unk g e h => cases k with
    | bad k => rw [e, g.due1] at k; cases k
    | unk g' e' k =>
      have := inj (e.symm.trans e')
      subst this
      rw [h] at k
      cases k; rfl
    | ok g' e' k =>
      have := inj (e.symm.trans e')
      subst this
      rw [h] at k
      cases k
  | ok g e h => cases k with
    | bad k => rw [e, g.due1] at k; cases k
    | unk g' e' k =>
      have := inj (e.symm.trans e')
      subst this
      rw [h] at k
      cases k
    | ok g' e' k => rfl
theorem MkRes.due {rows : List (D × D)} {r : Except Xc D} (h : MkRes rows r) : (∃ x, r = .error x ∧ Due rows (some x)) ∨ ∃ rs, r = .ok (netD (sortR rs)) ∧ GoodR rs ∧ rows = rs.map encR ∧ due2 rs = none ∧ Due rows none := by
  cases h with
  | bad h => exact .inl ⟨_, rfl, .bad h⟩
  | unk g e h => exact .inl ⟨_, rfl, .unk g e h⟩
  | ok g e h => exact .inr ⟨_, rfl, g, e, h, .ok g e h⟩
/-- the smallest name with a property, both ways -/
theorem sort_head {l m : List Str} (h : ∀ x, x ∈ l ↔ x ∈ m) : (sortT l).head? = (sortT m).head? := by
  have key : ∀ {l : List Str} {x : Str} {t : List Str}, sortT l = x :: t → x ∈ l ∧ ∀ y ∈ l, leT x y = true := fun {l x t} e => by
    have pw := List.pairwise_mergeSort leT_trans leT_total l
    rw [show l.mergeSort leT = sortT l from rfl, e] at pw
    have pw := List.pairwise_cons.mp pw
    refine ⟨sortT_mem.mp (by rw [e]; exact .head _), fun y hy => ?_⟩
    have : y ∈ x :: t := by rw [← e]; exact sortT_mem.mpr hy
    rcases List.mem_cons.mp this with z | z
    · rw [z]
      have := leT_total x x
      simpa using this
    · exact pw.1 y z
  cases e1 : sortT l with
  | nil =>
    have hl : l = [] := by
      have := sortT_len (l := l)
      rw [e1] at this
      exact List.length_eq_zero_iff.mp this.symm
    have hm : m = [] := List.eq_nil_iff_forall_not_mem.mpr fun x hx => by
      have := (h x).mpr hx
      rw [hl] at this
      cases this
    have e3 : sortT ([] : List Str) = [] := by rw [hl] at e1; exact e1
    rw [hm, e3]
  | cons x t =>
    cases e2 : sortT m with
    | nil =>
      have hx := (key e1).1
      have := sortT_mem.mpr ((h x).mp hx)
      rw [e2] at this
      cases this
    | cons y u =>
      have k1 := key e1
      have k2 := key e2
      have := leT_anti x y (k1.2 y ((h y).mpr k2.1)) (k2.2 x ((h x).mp k1.1))
      rw [this] <;> rfl
theorem nodeSet_find {L : List Str} {p : Str → Bool} : (nodeSet L).find? p = (sortT (L.filter p)).head? := by
  have e : (nodeSet L).find? p = ((nodeSet L).filter p).head? := (List.head?_filter ..).symm
  rw [e]
  have e2 : (nodeSet L).filter p = sortT ((nodeSet L).filter p) := by
    have pw : ((nodeSet L).filter p).Pairwise fun a b => leT a b = true := (List.pairwise_mergeSort leT_trans leT_total _).sublist List.filter_sublist
    exact (List.mergeSort_of_pairwise pw).symm
  rw [e2]
  refine sort_head fun x => ?_
  rw [List.mem_filter, List.mem_filter, nodeSet_mem]
end OM
namespace OM
open PySem (Str)
theorem idx_at {st : Store} {xs : List D} {r : Int} (h0 : 0 ≤ r) (h1 : r < xs.length) : ∃ v, xs[r.toNat]? = some v ∧ idxD st (.lst xs) (.int r) = some v := by
  have hk : r.toNat < xs.length := by omega
  exact ⟨_, List.getElem?_eq_getElem hk, idx_of (k := r.toNat) rfl (by omega) (List.getElem?_eq_getElem hk)⟩
theorem idx_in {st : Store} {xs : List D} {r : Int} (h0 : 0 ≤ r) (h1 : r < xs.length) : ∃ v, v ∈ xs ∧ idxD st (.lst xs) (.int r) = some v :=
  let ⟨v, a, b⟩ := idx_at h0 h1
  ⟨v, List.mem_of_getElem? a, b⟩
/-- rows that the checks of a law and of the package agree on -/
structure Rk (p : D × D) : Prop where
  x : RxOk p
  dn : dep p.1 ≤ 50
  f : thr isPt p.2 = true → isRq p.2 = true
theorem Rk.thr {p : D × D} (h : Rk p) : thr isPt p.2 = isRq p.2 := by
  cases e : OM.thr isPt p.2 with
  | true => exact (h.f e).symm
  | false => exact (isRq_thr e).symm
/-- small data, by a look -/
def smallB (v : D) : Bool := plain v && (decide (dep v ≤ 50) && (decide (sz v ≤ 1000) && tame v))
theorem smallB_ok {v : D} (h : smallB v = true) : Tm v ∧ dep v ≤ 50 ∧ ∀ c ps, v = rqD c ps → listed ps ≤ 1000 := by
  unfold smallB at h
  simp only [Bool.and_eq_true, decide_eq_true_eq] at h
  exact ⟨⟨h.1, by omega, h.2.2.2⟩, h.2.1, fun c ps e => by
    have := sz_listed c ps
    rw [← e] at this
    omega⟩
theorem few_of {ps : List Pt} (h : listed ps ≤ 8) : fewB ps = true := by
  have h2 := nodeSet_len (flat ps)
  rw [flat_len] at h2
  simp [fewB, show listed ps ≤ 12 by omega, show (nodeSet (flat ps)).length ≤ 8 by omega]
/-- the rows that are drawn -/
theorem rk_row {rs : Rows} (hr : NetRows rs) {p : Str × Rt} (h : p ∈ rs) : Rk (encR p) := by
  have hR := hr.rq p h
  have hk : p.1 ∈ rs.ks := List.mem_map_of_mem h
  have few : listed p.2.2 ≤ 12 := hR.few2 (by rw [List.length_map]; have := hr.few; omega)
  refine ⟨⟨⟨rfl, Nat.zero_le _, rfl⟩, ⟨plain_rq _ _, ?_, hR.fit.tame⟩, fun c ps e => ?_⟩, Nat.zero_le _, fun _ => ?_⟩
  · have := dep_pts p.2.2
    show max 0 (max (depL (p.2.2.map Pt.d) + 1) 0) + 1 ≤ 60
    omega
  · have := (rqD_inj (show rqD p.2.1 p.2.2 = rqD c ps from e)).2
    rw [← this]
    omega
  · show isRq (rqD p.2.1 p.2.2) = true
    rw [isRq_rq (hR.vq hr.nm)]
    exact hR.few_ (by rw [List.length_map]; exact hr.few)
theorem enc_rows (rs : Rows) : (rs.map encR).map rxD = rs.map rowD := by rw [List.map_map]; rfl
end OM
set_option maxHeartbeats 0
namespace K07
open PySem PySem.Spec PyProof.Rows L2 OM
def sub (s : Stmt) (j : Nat) : Stmt := match s with
  | .ClassDef _ _ _ body .. => body.getD j (.Pass ⟨0, 0, 0, 0⟩)
  | _ => .Pass ⟨0, 0, 0, 0⟩
def top (i : Nat) : Stmt := PySem.Challenge.pw_oathmoot_k07_networks_refused.main.body.getD i (.Pass ⟨0, 0, 0, 0⟩)
/-- _wall(k) -/
def f_0 : Df := ⟨1, 1, [
  .while (.cst (.bl true)) [.pass]]⟩
/-- is_integer(value) -/
def f_1 : Df := ⟨1, 1, [
  .ret (.and (.isi (.var 0) [.int]) (.not (.isi (.var 0) [.bool])))]⟩
/-- is_name(value) -/
def f_2 : Df := ⟨1, 2, [
  .ite (.or (.not (.isi (.var 0) [.str])) (.not (.chain .le .le (.cst (.int 1)) (.bi false .len [(.var 0)]) (.cst (.int 8))))) [.ret (.cst (.bl false))] [],
  .ret (.bi false .all [(.comp false (.nm 1) (.var 0) none (.cmp .in_ (.var 1) (.cst (.str "abcdefghijklmnopqrstuvwxyz"))))])]⟩
/-- node_set(names) -/
def f_3 : Df := ⟨1, 1, [
  .ret (.bi false .tuple [(.bi false .sortset [(.var 0)])])]⟩
/-- has_duplicates(parts) -/
def f_4 : Df := ⟨1, 2, [
  .ret (.bi false .any [(.comp false (.nm 1) (.range (.cst (.int 0)) (.bi false .len [(.var 0)])) none (.cmp .in_ (.idx (.var 0) (.var 1)) (.slc false (.var 0) none (some (.var 1)))))])]⟩
/-- is_threshold(value, is_part) -/
def f_5 : Df := ⟨2, 5, [
  .ite (.or (.not (.isi (.var 0) [.tuple])) (.cmp .ne (.bi false .len [(.var 0)]) (.cst (.int 2)))) [.ret (.cst (.bl false))] [],
  .asg (.tp [.nm 2, .nm 3]) (.var 0),
  .ite (.or (.not (.pcall 1 [(.var 2)])) (.or (.not (.isi (.var 3) [.tuple])) (.not (.chain .le .le (.cst (.int 1)) (.var 2) (.bi false .len [(.var 3)]))))) [.ret (.cst (.bl false))] [],
  .ret (.and (.bi false .all [(.comp false (.nm 4) (.var 3) none (.callv 8 1 [(.var 4)]))]) (.not (.pcall 4 [(.var 3)])))]⟩
/-- is_simple(value) -/
def f_6 : Df := ⟨1, 1, [
  .ret (.pcall 5 [(.var 0), (.cst (.fn 2))])]⟩
/-- is_part(value) -/
def f_7 : Df := ⟨1, 1, [
  .ret (.or (.pcall 2 [(.var 0)]) (.pcall 6 [(.var 0)]))]⟩
/-- listed_names(requirement) -/
def f_8 : Df := ⟨1, 3, [
  .asg (.nm 1) (.lst true []),
  .forw [2] (.nm 2) (.idx (.var 0) (.cst (.int 1))) [.ex (.mt .extend (.var 1) [(.ite (.isi (.var 2) [.str]) (.lst false [(.var 2)]) (.idx (.var 2) (.cst (.int 1))))])],
  .frz 1,
  .ret (.var 1)]⟩
/-- is_requirement(value) -/
def f_9 : Df := ⟨1, 2, [
  .ite (.not (.pcall 5 [(.var 0), (.cst (.fn 7))])) [.ret (.cst (.bl false))] [],
  .asg (.nm 1) (.pcall 8 [(.var 0)]),
  .ret (.and (.cmp .le (.bi false .len [(.var 1)]) (.cst (.int 12))) (.cmp .le (.bi false .lenset [(.var 1)]) (.cst (.int 8))))]⟩
/-- names_in(requirement) -/
def f_10 : Df := ⟨1, 1, [
  .ret (.pcall 3 [(.pcall 8 [(.var 0)])])]⟩
/-- Network.__init__(self, rows) -/
def f_11 : Df := ⟨2, 6, [
  .asg (.nm 2) (.dnew),
  .forw [4] (.tp [.nm 3, .nm 4]) (.var 1) [.ite (.not (.pcall 2 [(.var 3)])) [.raise "InvalidName" ["value"] [(.var 3)]] [], .ite (.cmp .in_ (.var 3) (.var 2)) [.raise "DuplicateNode" ["name"] [(.var 3)]] [], .ite (.not (.pcall 9 [(.var 4)])) [.raise "InvalidRequirement" ["name"] [(.var 3)]] [], .put (.var 2) (.var 3) (.var 4)],
  .frz 2,
  .forw [5] (.nm 3) (.var 2) [.forw [5] (.nm 5) (.pcall 10 [(.idx (.var 2) (.var 3))]) [.ite (.cmp .notin (.var 5) (.var 2)) [.raise "UnknownNode" ["name"] [(.var 5)]] []]],
  .setf ["Network"] (.var 0) "requirements" (.dcomp (.nm 3) (.bi false .sorted [(.bi false .list [(.var 2)])]) none (.var 3) (.idx (.var 2) (.var 3)))]⟩
/-- Network.node_names(self) -/
def f_12 : Df := ⟨1, 1, [
  .never]⟩
/-- Network.as_rows(self) -/
def f_13 : Df := ⟨1, 2, [
  .ret (.bi false .tuple [(.comp false (.nm 1) (.fld ["Network"] (.var 0) "requirements") none (.tup [(.var 1), (.idx (.fld ["Network"] (.var 0) "requirements") (.var 1))]))])]⟩
/-- Network.requirement_of(self, name) -/
def f_14 : Df := ⟨2, 2, [
  .never]⟩
/-- Network.check_nodes(self, names) -/
def f_15 : Df := ⟨2, 2, [
  .never]⟩
/-- Network.with_node(self, name, requirement) -/
def f_16 : Df := ⟨3, 3, [
  .never]⟩
/-- Network.without_node(self, name) -/
def f_17 : Df := ⟨2, 2, [
  .never]⟩
/-- Network.__len__(self) -/
def f_18 : Df := ⟨1, 1, [
  .ret (.bi false .len [(.fld ["Network"] (.var 0) "requirements")])]⟩
/-- Network.__eq__(self, other) -/
def f_19 : Df := ⟨2, 2, [
  .ret (.and (.iso "Network" (.var 1)) (.cmp .eq (.meth true "as_rows" [("Network", 13)] (.var 0) []) (.meth true "as_rows" [("Network", 13)] (.var 1) [])))]⟩
/-- _law_box(_law_script) -/
def f_20 : Df := ⟨1, 3, [
  .asg (.nm 1) (.comp true (.nm 2) (.var 0) (some (.cmp .ge (.var 2) (.bin .pow (.cst (.int 10)) (.cst (.int 18))))) (.var 2)),
  .ret (.lst true [(.var 1), (.cst (.int 0)), (.comp false (.nm 2) (.var 0) (some (.cmp .lt (.var 2) (.bin .pow (.cst (.int 10)) (.cst (.int 18))))) (.var 2)), (.cst (.int 0))])]⟩
/-- _law_mixed(_law_cell, _law_k) -/
def f_21 : Df := ⟨2, 3, [
  .asg (.nm 2) (.bin .mod (.bin .pow (.bin .add (.bin .add (.bin .add (.bin .mod (.var 0) (.cst (.int 2147483647))) (.bin .mul (.bin .mul (.cst (.int 1009)) (.var 1)) (.var 1))) (.bin .mul (.cst (.int 48611)) (.var 1))) (.cst (.int 17))) (.cst (.int 5))) (.cst (.int 2147483647))),
  .ret (.bin .mod (.bin .add (.bin .mul (.var 2) (.cst (.int 39373))) (.bin .mul (.cst (.int 7919)) (.var 1))) (.cst (.int 1000000007)))]⟩
/-- _law_take(_law_box_here, _law_size) -/
def f_22 : Df := ⟨2, 5, [
  .put (.var 0) (.cst (.int 3)) (.bin .add (.idx (.var 0) (.cst (.int 3))) (.cst (.int 1))),
  .ite (.and (.cmp .eq (.idx (.var 0) (.cst (.int 1))) (.cst (.int 0))) (.cmp .gt (.bi false .len [(.idx (.var 0) (.cst (.int 0)))]) (.cst (.int 0)))) [.put (.var 0) (.cst (.int 1)) (.mt .pop1 (.idx (.var 0) (.cst (.int 0))) [(.cst (.int 0))])] [],
  .ite (.cmp .gt (.idx (.var 0) (.cst (.int 1))) (.cst (.int 0))) [.asg (.nm 2) (.bin .mod (.idx (.var 0) (.cst (.int 1))) (.var 1)), .put (.var 0) (.cst (.int 1)) (.bin .div (.idx (.var 0) (.cst (.int 1))) (.var 1)), .ret (.var 2)] [],
  .asg (.nm 3) (.idx (.bin .add (.idx (.var 0) (.cst (.int 2))) (.lst false [(.bin .mul (.cst (.int 7)) (.idx (.var 0) (.cst (.int 3))))])) (.bin .mod (.idx (.var 0) (.cst (.int 3))) (.bi false .max2 [(.cst (.int 1)), (.bi false .len [(.idx (.var 0) (.cst (.int 2)))])]))),
  .asg (.nm 2) (.cst (.int 0)),
  .asg (.nm 4) (.cst (.int 1)),
  .while (.cmp .lt (.var 4) (.var 1)) [.asg (.nm 2) (.bin .add (.bin .mul (.var 2) (.cst (.int 1000000007))) (.pcall 21 [(.var 3), (.bin .add (.idx (.var 0) (.cst (.int 3))) (.bin .mul (.cst (.int 1000)) (.bin .mod (.var 2) (.cst (.int 89)))))])), .asg (.nm 4) (.bin .mul (.var 4) (.cst (.int 1000000007)))],
  .ret (.bin .mod (.var 2) (.var 1))]⟩
/-- _law_names(_law_box_here, _law_many) -/
def f_23 : Df := ⟨2, 9, [
  .asg (.nm 2) (.cst (.str "abcdefghijklmnopqrstuvwxyz")),
  .asg (.nm 3) (.lst true []),
  .forw [4, 5, 6, 7] (.nm 4) (.range (.cst (.int 0)) (.var 1)) [.asg (.nm 5) (.bin .add (.cst (.int 1)) (.call 22 [(.var 0), (.idx (.lst false [(.cst (.int 1)), (.cst (.int 2)), (.cst (.int 8))]) (.call 22 [(.var 0), (.cst (.int 3))]))])), .asg (.nm 6) (.mt .join (.cst (.str "")) [(.comp false (.nm 7) (.range (.cst (.int 0)) (.var 5)) none (.idx (.var 2) (.call 22 [(.var 0), (.cst (.int 26))])))]), .ex (.mt .append (.var 3) [(.ite (.cmp .notin (.var 6) (.var 3)) (.var 6) (.idx (.comp false (.nm 8) (.var 2) (some (.cmp .notin (.var 8) (.var 3))) (.var 8)) (.cst (.int 0))))])],
  .frz 3,
  .ret (.var 3)]⟩
/-- _law_some(_law_box_here, _law_values) -/
def f_24 : Df := ⟨2, 4, [
  .asg (.nm 2) (.bi true .list [(.var 1)]),
  .ret (.comp true (.nm 3) (.range (.cst (.int 0)) (.bin .add (.cst (.int 1)) (.call 22 [(.var 0), (.bi false .len [(.var 2)])]))) none (.mt .pop1 (.var 2) [(.call 22 [(.var 0), (.bi false .len [(.var 2)])])]))]⟩
/-- _law_count(_law_box_here, _law_many) -/
def f_25 : Df := ⟨2, 2, [
  .ret (.idx (.lst false [(.cst (.int 1)), (.var 1), (.bi false .min2 [(.var 1), (.bin .add (.bin .div (.bin .mul (.cst (.int 2)) (.var 1)) (.cst (.int 3))) (.cst (.int 1)))]), (.bin .add (.cst (.int 1)) (.call 22 [(.var 0), (.var 1)]))]) (.call 22 [(.var 0), (.cst (.int 4))]))]⟩
/-- _law_requirement(_law_box_here, _law_names_here) -/
def f_26 : Df := ⟨2, 6, [
  .asg (.nm 2) (.call 24 [(.var 0), (.var 1)]),
  .forw [3, 4] (.nm 3) (.range (.cst (.int 0)) (.idx (.lst false [(.cst (.int 0)), (.cst (.int 0)), (.cst (.int 1)), (.cst (.int 2)), (.cst (.int 4))]) (.call 22 [(.var 0), (.cst (.int 5))]))) [.asg (.nm 4) (.slc false (.frz (.call 24 [(.var 0), (.var 1)])) none (some (.bin .add (.cst (.int 1)) (.call 22 [(.var 0), (.cst (.int 4))])))), .asg (.nm 5) (.tup [(.call 25 [(.var 0), (.bi false .len [(.var 4)])]), (.bi false .tuple [(.var 4)])]), .ite (.and (.cmp .notin (.var 5) (.var 2)) (.cmp .lt (.pcall 29 [(.bin .add (.var 2) (.lst false [(.var 5)]))]) (.cst (.int 13)))) [.ex (.mt .insert (.var 2) [(.call 22 [(.var 0), (.bin .add (.bi false .len [(.var 2)]) (.cst (.int 1)))]), (.var 5)])] []],
  .frz 2,
  .asg (.nm 4) (.comp false (.nm 5) (.var 2) (some (.not (.isi (.var 5) [.str]))) (.var 5)),
  .ite (.and (.cmp .gt (.bi false .len [(.var 4)]) (.cst (.int 0))) (.cmp .eq (.call 22 [(.var 0), (.cst (.int 4))]) (.cst (.int 0)))) [.asg (.nm 2) (.var 4)] [],
  .ret (.tup [(.call 25 [(.var 0), (.bi false .len [(.var 2)])]), (.bi false .tuple [(.var 2)])])]⟩
/-- _law_rows(_law_box_here, _law_most) -/
def f_27 : Df := ⟨2, 9, [
  .asg (.nm 2) (.call 23 [(.var 0), (.bin .add (.cst (.int 1)) (.call 22 [(.var 0), (.var 1)]))]),
  .asg (.nm 3) (.bi false .tuple [(.slc false (.var 2) none (some (.bi false .max2 [(.cst (.int 1)), (.bin .sub (.bi false .len [(.var 2)]) (.call 22 [(.var 0), (.cst (.int 2))]))])))]),
  .asg (.nm 4) (.call 22 [(.var 0), (.cst (.int 4))]),
  .asg (.nm 5) (.lst true []),
  .forw [6, 7, 8] (.nm 6) (.range (.cst (.int 0)) (.bi false .len [(.var 2)])) [.asg (.nm 7) (.bi false .tuple [(.slc false (.bin .add (.slc false (.var 2) (some (.var 6)) none) (.slc false (.var 2) none (some (.var 6)))) none (some (.cst (.int 3))))]), .asg (.nm 8) (.lst false [(.tup [(.bin .add (.bin .div (.bin .mul (.cst (.int 2)) (.bi false .len [(.var 3)])) (.cst (.int 3))) (.cst (.int 1))), (.var 3)]), (.tup [(.bin .add (.bin .div (.bi false .len [(.var 3)]) (.cst (.int 2))) (.cst (.int 1))), (.var 3)]), (.tup [(.bi false .min2 [(.cst (.int 2)), (.bi false .len [(.var 7)])]), (.var 7)])]), .ex (.mt .append (.var 5) [(.tup [(.idx (.var 2) (.var 6)), (.idx (.bin .add (.var 8) (.lst false [(.call 26 [(.var 0), (.var 2)])])) (.var 4))])])],
  .ite (.cmp .eq (.call 22 [(.var 0), (.cst (.int 3))]) (.cst (.int 0))) [.asg (.nm 6) (.call 22 [(.var 0), (.bi false .len [(.var 2)])]), .put (.var 5) (.var 6) (.tup [(.idx (.var 2) (.var 6)), (.call 26 [(.var 0), (.var 2)])])] [],
  .frz 5,
  .ret (.var 5)]⟩
/-- _law_names_in(_law_requirement_here) -/
def f_28 : Df := ⟨1, 3, [
  .asg (.nm 1) (.lst true []),
  .forw [2] (.nm 2) (.idx (.var 0) (.cst (.int 1))) [.ex (.mt .extend (.var 1) [(.ite (.isi (.var 2) [.str]) (.lst false [(.var 2)]) (.bi false .list [(.idx (.var 2) (.cst (.int 1)))]))])],
  .frz 1,
  .ret (.var 1)]⟩
/-- _law_listed(_law_parts) -/
def f_29 : Df := ⟨1, 2, [
  .ret (.bi false .sum [(.comp false (.nm 1) (.var 0) none (.ite (.isi (.var 1) [.str]) (.cst (.int 1)) (.bi false .len [(.idx (.var 1) (.cst (.int 1)))])))])]⟩
/-- _law_name(_law_box_here) -/
def f_30 : Df := ⟨1, 3, [
  .asg (.nm 1) (.bin .add (.cst (.int 1)) (.call 22 [(.var 0), (.idx (.lst false [(.cst (.int 1)), (.cst (.int 2)), (.cst (.int 8))]) (.call 22 [(.var 0), (.cst (.int 3))]))])),
  .ret (.mt .join (.cst (.str "")) [(.comp false (.nm 2) (.range (.cst (.int 0)) (.var 1)) none (.idx (.cst (.str "abcdefghijklmnopqrstuvwxyz")) (.call 22 [(.var 0), (.cst (.int 26))])))])]⟩
/-- _law_groups(_law_names_here) -/
def f_31 : Df := ⟨1, 4, [
  .asg (.nm 1) (.bin .div (.bin .add (.bi false .len [(.var 0)]) (.cst (.int 1))) (.cst (.int 2))),
  .asg (.nm 2) (.comp false (.nm 3) (.lst false [(.slc false (.var 0) none (some (.var 1))), (.slc false (.var 0) (some (.var 1)) none)]) (some (.cmp .gt (.bi false .len [(.var 3)]) (.cst (.int 0)))) (.var 3)),
  .ret (.tup [(.bi false .len [(.var 2)]), (.bi false .tuple [(.comp false (.nm 3) (.var 2) none (.tup [(.bin .add (.bin .div (.bi false .len [(.var 3)]) (.cst (.int 2))) (.cst (.int 1))), (.bi false .tuple [(.var 3)])]))])])]⟩
/-- _law_menu(_law_box_here, _law_names_here, _law_at, _law_way) -/
def f_32 : Df := ⟨4, 7, [
  .asg (.nm 4) (.bin .add (.slc false (.var 1) (some (.var 2)) none) (.slc false (.var 1) none (some (.var 2)))),
  .ite (.cmp .eq (.var 3) (.cst (.int 0))) [.ret (.tup [(.bin .add (.bin .div (.bin .mul (.cst (.int 2)) (.bi false .len [(.var 1)])) (.cst (.int 3))) (.cst (.int 1))), (.bi false .tuple [(.var 4)])])] [],
  .ite (.cmp .eq (.var 3) (.cst (.int 1))) [.ret (.tup [(.bin .add (.bin .div (.bi false .len [(.var 1)]) (.cst (.int 2))) (.cst (.int 1))), (.bi false .tuple [(.var 4)])])] [],
  .ite (.cmp .eq (.var 3) (.cst (.int 2))) [.asg (.nm 5) (.slc false (.var 1) none (some (.bi false .max2 [(.cst (.int 1)), (.bin .sub (.bi false .len [(.var 1)]) (.cst (.int 1)))]))), .ret (.tup [(.bin .add (.bin .div (.bin .mul (.cst (.int 2)) (.bi false .len [(.var 5)])) (.cst (.int 3))) (.cst (.int 1))), (.bi false .tuple [(.var 5)])])] [],
  .ite (.cmp .eq (.var 3) (.cst (.int 3))) [.asg (.nm 6) (.bin .add (.bin .add (.slc false (.var 4) none (some (.cst (.int 1)))) (.slc false (.var 4) (some (.cst (.int 1))) (some (.cst (.int 2))))) (.bin .mul (.slc false (.var 4) (some (.neg (.cst (.int 1)))) none) (.bi false .int [(.cmp .gt (.bi false .len [(.var 4)]) (.cst (.int 2)))]))), .ret (.tup [(.bi false .min2 [(.cst (.int 2)), (.bi false .len [(.var 6)])]), (.bi false .tuple [(.var 6)])])] [],
  .ite (.cmp .eq (.var 3) (.cst (.int 4))) [.ret (.pcall 31 [(.var 1)])] [],
  .ret (.call 26 [(.var 0), (.var 1)])]⟩
/-- _law_is_name(_law_value) -/
def f_33 : Df := ⟨1, 2, [
  .ite (.or (.not (.isi (.var 0) [.str])) (.not (.chain .lt .lt (.cst (.int 0)) (.bi false .len [(.var 0)]) (.cst (.int 9))))) [.ret (.cst (.bl false))] [],
  .ret (.bi false .all [(.comp false (.nm 1) (.var 0) none (.cmp .in_ (.var 1) (.cst (.str "abcdefghijklmnopqrstuvwxyz"))))])]⟩
/-- _law_is_threshold(_law_value, _law_deep) -/
def f_34 : Df := ⟨2, 6, [
  .ite (.or (.not (.isi (.var 0) [.tuple])) (.or (.cmp .ne (.bi false .len [(.var 0)]) (.cst (.int 2))) (.not (.isi (.idx (.var 0) (.cst (.int 1))) [.tuple])))) [.ret (.cst (.bl false))] [],
  .asg (.tp [.nm 2, .nm 3]) (.var 0),
  .ite (.or (.isi (.var 2) [.bool]) (.or (.not (.isi (.var 2) [.int])) (.not (.chain .lt .le (.cst (.int 0)) (.var 2) (.bi false .len [(.var 3)]))))) [.ret (.cst (.bl false))] [],
  .forw [4, 5] (.nm 4) (.range (.cst (.int 0)) (.bi false .len [(.var 3)])) [.asg (.nm 5) (.or (.pcall 33 [(.idx (.var 3) (.var 4))]) (.and (.var 1) (.pcall 34 [(.idx (.var 3) (.var 4)), (.cst (.bl false))]))), .ite (.or (.not (.var 5)) (.cmp .in_ (.idx (.var 3) (.var 4)) (.slc false (.var 3) none (some (.var 4))))) [.ret (.cst (.bl false))] []],
  .ret (.cst (.bl true))]⟩
/-- _law_due(_law_rows_here) -/
def f_35 : Df := ⟨1, 6, [
  .asg (.nm 1) (.lst true []),
  .forw [2, 3] (.tp [.nm 2, .nm 3]) (.var 0) [.ite (.not (.pcall 33 [(.var 2)])) [.ret (.tup [(.cst (.str "name")), (.var 2)])] [], .ite (.cmp .in_ (.var 2) (.var 1)) [.ret (.tup [(.cst (.str "twice")), (.var 2)])] [], .ite (.not (.pcall 34 [(.var 3), (.cst (.bl true))])) [.ret (.tup [(.cst (.str "requirement")), (.var 2)])] [], .ex (.mt .append (.var 1) [(.var 2)])],
  .frz 1,
  .forw [2, 3, 4] (.tp [.nm 2, .nm 3]) (.var 0) [.asg (.nm 4) (.bi false .sorted [(.comp false (.nm 5) (.pcall 28 [(.var 3)]) (some (.cmp .notin (.var 5) (.var 1))) (.var 5))]), .ite (.cmp .gt (.bi false .len [(.var 4)]) (.cst (.int 0))) [.ret (.tup [(.cst (.str "unknown")), (.idx (.var 4) (.cst (.int 0)))])] []],
  .ret (.cst .non)]⟩
/-- _law_changed(_law_box_here, _law_rows_here) -/
def f_36 : Df := ⟨2, 7, [
  .asg (.nm 2) (.call 22 [(.var 0), (.bi false .len [(.var 1)])]),
  .asg (.tp [.nm 3, .nm 4]) (.idx (.var 1) (.var 2)),
  .asg (.nm 5) (.call 22 [(.var 0), (.cst (.int 5))]),
  .ite (.cmp .eq (.var 5) (.cst (.int 0))) [.asg (.nm 3) (.idx (.lst false [(.cst (.str "")), (.cst (.str "A")), (.cst (.str "ninechars")), (.cst (.str "a b")), (.cst (.int 7)), (.cst .non), (.cst (.bl true)), (.tup [(.cst (.str "a"))]), (.lst false [(.cst (.str "a"))])]) (.call 22 [(.var 0), (.cst (.int 9))]))] [],
  .ite (.cmp .eq (.var 5) (.cst (.int 1))) [.asg (.nm 3) (.idx (.idx (.var 1) (.call 22 [(.var 0), (.bi false .len [(.var 1)])])) (.cst (.int 0)))] [],
  .ite (.cmp .eq (.var 5) (.cst (.int 2))) [.asg (.nm 6) (.lst false [(.cst .non), (.cst (.str "a")), (.cst (.int 3)), (.tup []), (.lst false [(.cst (.int 1)), (.lst false [(.cst (.str "a"))])]), (.tup [(.cst (.int 0)), (.tup [(.cst (.str "a"))])]), (.tup [(.cst (.int 2)), (.tup [(.cst (.str "a"))])]), (.tup [(.cst (.int 1)), (.lst false [(.cst (.str "a"))])]), (.tup [(.cst (.bl true)), (.tup [(.cst (.str "a"))])]), (.tup [(.cst (.int 1)), (.tup [(.cst (.str "a")), (.cst (.str "a"))])])]), .asg (.nm 4) (.idx (.var 6) (.call 22 [(.var 0), (.cst (.int 10))]))] [],
  .ite (.cmp .eq (.var 5) (.cst (.int 3))) [.asg (.nm 4) (.tup [(.cst (.int 1)), (.tup [(.idx (.lst false [(.cst (.str "zz")), (.cst (.str "aa")), (.cst (.str "b")), (.cst (.str "m"))]) (.call 22 [(.var 0), (.cst (.int 4))])), (.cst (.str "nowhere"))])])] [],
  .ite (.cmp .eq (.var 5) (.cst (.int 4))) [.ret (.bin .add (.slc false (.var 1) none (some (.var 2))) (.slc false (.var 1) (some (.bin .add (.var 2) (.cst (.int 1)))) none))] [],
  .ret (.bin .add (.bin .add (.slc false (.var 1) none (some (.var 2))) (.lst false [(.tup [(.var 3), (.var 4)])])) (.slc false (.var 1) (some (.bin .add (.var 2) (.cst (.int 1)))) none))]⟩
/-- _law_made(_law_rows_here) -/
def f_37 : Df := ⟨1, 3, [
  .asg (.nm 1) (.cst .non),
  .tryx [.ex (.make true "Network" 11 [(.var 0)])] [⟨["InvalidName"], ["DuplicateNode", "InvalidRequirement", "UnknownNode"], some 2, [.asg 1 (.tup [(.cst (.str "name")), (.fld "value")])]⟩, ⟨["DuplicateNode"], ["InvalidName", "InvalidRequirement", "UnknownNode"], some 2, [.asg 1 (.tup [(.cst (.str "twice")), (.fld "name")])]⟩, ⟨["InvalidRequirement"], ["InvalidName", "DuplicateNode", "UnknownNode"], some 2, [.asg 1 (.tup [(.cst (.str "requirement")), (.fld "name")])]⟩, ⟨["UnknownNode"], ["InvalidName", "DuplicateNode", "InvalidRequirement"], some 2, [.asg 1 (.tup [(.cst (.str "unknown")), (.fld "name")])]⟩, ⟨["InvalidName", "DuplicateNode", "InvalidRequirement", "UnknownNode"], [], none, [.asg 1 (.tup [(.cst (.str "other")), (.cst .non)])]⟩],
  .ret (.var 1)]⟩
/-- law(_law_script) -/
def f_38 : Df := ⟨1, 8, [
  .asg (.nm 1) (.call 20 [(.var 0)]),
  .forw [2, 3, 4, 5, 6, 7] (.nm 2) (.range (.cst (.int 0)) (.cst (.int 4))) [.asg (.nm 3) (.call 27 [(.var 1), (.cst (.int 6))]), .forw [4] (.nm 4) (.range (.cst (.int 0)) (.call 22 [(.var 1), (.cst (.int 3))])) [.ite (.cmp .gt (.bi false .len [(.var 3)]) (.cst (.int 0))) [.asg (.nm 3) (.call 36 [(.var 1), (.var 3)])] []], .asg (.nm 5) (.pcall 35 [(.var 3)]), .forw [6, 7] (.nm 6) (.range (.cst (.int 0)) (.cst (.int 2))) [.asg (.nm 7) (.pcall 37 [(.idx (.lst false [(.var 3), (.bi false .tuple [(.var 3)])]) (.var 6))]), .ite (.cmp .ne (.var 7) (.var 5)) [.ret (.cst (.bl false))] [], .ite (.and (.isnone true (.var 5)) (.cmp .ne (.isi (.idx (.var 7) (.cst (.int 1))) [.bool]) (.isi (.idx (.var 5) (.cst (.int 1))) [.bool]))) [.ret (.cst (.bl false))] []]],
  .ret (.cst (.bl true))]⟩
def rows : List OM.Row := [
  {name := "_wall", st := top 0, N := ["k"], df := f_0},
  {name := "is_integer", st := top 12, N := ["value"], df := f_1},
  {name := "is_name", st := top 13, N := ["value", "letter"], df := f_2},
  {name := "node_set", st := top 14, N := ["names"], df := f_3},
  {name := "has_duplicates", st := top 15, N := ["parts", "index"], df := f_4},
  {name := "is_threshold", st := top 16, N := ["value", "is_part", "count", "parts", "part"], df := f_5},
  {name := "is_simple", st := top 17, N := ["value"], df := f_6},
  {name := "is_part", st := top 18, N := ["value"], df := f_7},
  {name := "listed_names", st := top 19, N := ["requirement", "found", "part"], df := f_8},
  {name := "is_requirement", st := top 20, N := ["value", "names"], df := f_9},
  {name := "names_in", st := top 21, N := ["requirement"], df := f_10},
  {cn := some "Network", name := "__init__", st := sub (top 23) 0, N := ["self", "rows", "requirements", "name", "requirement", "used"], df := f_11, dp := some (.tup [])},
  {cn := some "Network", name := "node_names", st := sub (top 23) 1, N := ["self"], df := f_12},
  {cn := some "Network", name := "as_rows", st := sub (top 23) 2, N := ["self", "name"], df := f_13},
  {cn := some "Network", name := "requirement_of", st := sub (top 23) 3, N := ["self", "name"], df := f_14},
  {cn := some "Network", name := "check_nodes", st := sub (top 23) 4, N := ["self", "names"], df := f_15},
  {cn := some "Network", name := "with_node", st := sub (top 23) 5, N := ["self", "name", "requirement"], df := f_16},
  {cn := some "Network", name := "without_node", st := sub (top 23) 6, N := ["self", "name"], df := f_17},
  {cn := some "Network", name := "__len__", st := sub (top 23) 7, N := ["self"], df := f_18},
  {cn := some "Network", name := "__eq__", st := sub (top 23) 8, N := ["self", "other"], df := f_19},
  {name := "_law_box", st := top 25, N := ["_law_script", "_law_great", "_law_cell"], df := f_20},
  {name := "_law_mixed", st := top 26, N := ["_law_cell", "_law_k", "_law_whole"], df := f_21},
  {name := "_law_take", st := top 27, N := ["_law_box_here", "_law_size", "_law_found", "_law_cell", "_law_reach"], df := f_22},
  {name := "_law_names", st := top 28, N := ["_law_box_here", "_law_many", "_law_letters", "_law_found", "_law_k", "_law_size", "_law_name_here", "_law_j", "_law_one"], df := f_23},
  {name := "_law_some", st := top 29, N := ["_law_box_here", "_law_values", "_law_left", "_law_k"], df := f_24},
  {name := "_law_count", st := top 30, N := ["_law_box_here", "_law_many"], df := f_25},
  {name := "_law_requirement", st := top 31, N := ["_law_box_here", "_law_names_here", "_law_parts", "_law_k", "_law_inner", "_law_part"], df := f_26},
  {name := "_law_rows", st := top 32, N := ["_law_box_here", "_law_most", "_law_names_here", "_law_core", "_law_way", "_law_rows_here", "_law_at", "_law_ring", "_law_some_here"], df := f_27},
  {name := "_law_names_in", st := top 33, N := ["_law_requirement_here", "_law_found", "_law_part"], df := f_28},
  {name := "_law_listed", st := top 34, N := ["_law_parts", "_law_part"], df := f_29},
  {name := "_law_name", st := top 35, N := ["_law_box_here", "_law_many", "_law_k"], df := f_30},
  {name := "_law_groups", st := top 36, N := ["_law_names_here", "_law_half", "_law_groups_here", "_law_group"], df := f_31},
  {name := "_law_menu", st := top 37, N := ["_law_box_here", "_law_names_here", "_law_at", "_law_way", "_law_turned", "_law_core", "_law_ring"], df := f_32},
  {name := "_law_is_name", st := top 38, N := ["_law_value", "_law_letter"], df := f_33},
  {name := "_law_is_threshold", st := top 39, N := ["_law_value", "_law_deep", "_law_count_here", "_law_parts", "_law_at", "_law_good"], df := f_34},
  {name := "_law_due", st := top 40, N := ["_law_rows_here", "_law_names_here", "_law_name_here", "_law_requirement_here", "_law_strange", "_law_used"], df := f_35},
  {name := "_law_changed", st := top 41, N := ["_law_box_here", "_law_rows_here", "_law_at", "_law_name_here", "_law_requirement_here", "_law_way", "_law_bad"], df := f_36},
  {name := "_law_made", st := top 42, N := ["_law_rows_here", "_law_found", "e"], df := f_37},
  {name := "law", st := top 43, N := ["_law_script", "_law_box_here", "_law_turn", "_law_rows_here", "_law_k", "_law_due_here", "_law_again", "_law_found"], df := f_38}]
def bn : List Str := ["all", "any", "bool", "int", "isinstance", "len", "list", "max", "min", "range", "set", "sorted", "str", "sum", "tuple"]
def cs : List (Str × D) := [("LETTERS", (.str "abcdefghijklmnopqrstuvwxyz")), ("LONGEST_NAME", (.int 8)), ("MOST_DIFFERENT_NAMES", (.int 8)), ("MOST_NAMES", (.int 12))]
def cls : List Cn := [⟨"Network", ["requirements"], true⟩]
def xr : List XRow := [{cn := "InvalidName", fn := ["value"], base := "MootError", st := sub (top 3) 0, as_ := [("InvalidName", true), ("DuplicateNode", false), ("InvalidRequirement", false), ("UnknownNode", false), ("MootError", true)]},
  {cn := "DuplicateNode", fn := ["name"], base := "MootError", st := sub (top 4) 0, as_ := [("InvalidName", false), ("DuplicateNode", true), ("InvalidRequirement", false), ("UnknownNode", false), ("MootError", true)]},
  {cn := "InvalidRequirement", fn := ["name"], base := "MootError", st := sub (top 5) 0, as_ := [("InvalidName", false), ("DuplicateNode", false), ("InvalidRequirement", true), ("UnknownNode", false), ("MootError", true)]},
  {cn := "UnknownNode", fn := ["name"], base := "MootError", st := sub (top 6) 0, as_ := [("InvalidName", false), ("DuplicateNode", false), ("InvalidRequirement", false), ("UnknownNode", true), ("MootError", true)]}]
def others0 : List Str := ["_wall", "__name__", "MootError", "InvalidName", "DuplicateNode", "InvalidRequirement", "UnknownNode", "LETTERS", "LONGEST_NAME", "MOST_NAMES", "MOST_DIFFERENT_NAMES", "is_integer", "is_name", "node_set", "has_duplicates", "is_threshold", "is_simple", "is_part", "listed_names", "is_requirement"]
def others1 : List Str := ["names_in", "Network", "_law_box", "_law_mixed", "_law_take", "_law_names", "_law_some", "_law_count", "_law_requirement", "_law_rows", "_law_names_in", "_law_listed", "_law_name", "_law_groups", "_law_menu", "_law_is_name", "_law_is_threshold", "_law_due", "_law_changed", "_law_made"]
def others : List Str := others0 ++ others1
theorem chk : rows.all (chkRow (tb rows bn cs cls xr) 40) = true := by decide +kernel
noncomputable abbrev Cn (n : Nat) : Calls := callN (rows.map (·.df)) n
theorem s_law_box (n : Nat) : BoxOk (Cn (n + 1)) 20 := box_ok rfl
theorem s_law_mixed (n : Nat) : MixedOk (Cn (n + 1)) 21 := mixed_ok rfl
theorem s_law_take (n : Nat) : TakeOk (Cn (n + 2)) 22 := take_ok rfl (s_law_mixed n)
theorem s_law_names (n : Nat) : NamesOk (Cn (n + 3)) 23 := names_ok rfl (s_law_take n)
theorem s_law_some (n : Nat) : SomeOk (Cn (n + 3)) 24 := some_ok rfl (s_law_take n)
theorem s_law_count (n : Nat) : CountOk (Cn (n + 3)) 25 := count_ok rfl (s_law_take n)
theorem s_law_listed (n : Nat) : ListedOk (Cn (n + 1)) 29 := listed_ok rfl
theorem s_law_requirement (n : Nat) : ReqOk (Cn (n + 4)) 26 := req_ok rfl (s_law_take (n + 1)) (s_law_some n) (s_law_count n) (s_law_listed (n + 2))
theorem s_law_rows (n : Nat) : DRowsOk (Cn (n + 5)) 27 := drows_ok rfl (s_law_names (n + 1)) (s_law_take (n + 2)) (s_law_requirement n)
theorem s_is_integer (n : Nat) : IsIntOk (Cn (n + 1)) 1 := isInt_ok rfl
theorem s_is_name (n : Nat) : IsNameOk (Cn (n + 1)) 2 := isName_ok rfl
theorem s_node_set (n : Nat) : NodeSetOk (Cn (n + 1)) 3 := nodeSet_ok rfl
theorem s_has_duplicates (n : Nat) : HasDupOk (Cn (n + 1)) 4 := hasDup_ok rfl
theorem s_listed_names (n : Nat) : ListNmOk (Cn (n + 1)) 8 := listedNames_ok rfl
theorem s_is_threshold (n : Nat) : ThrOk (Cn (n + 2)) 5 2 isNm := thr_ok (nf := 8) (ii := 1) (hd := 4) rfl (by decide) (s_is_integer n) (s_has_duplicates n) (s_is_name n).says
theorem s_is_simple (n : Nat) : SimpleOk (Cn (n + 3)) 6 := simple_ok rfl (s_is_threshold n)
theorem s_is_part (n : Nat) : PartOk (Cn (n + 4)) 7 := part_ok rfl (s_is_name (n + 2)) (s_is_simple n)
theorem s_is_requirement (n : Nat) : IsReqOk (Cn (n + 6)) 9 := isReq_ok (tr := 5) (pt := 7) (ln := 8) rfl (thrpart_ok (nf := 8) (ii := 1) (hd := 4) rfl (by decide) (s_is_integer (n + 3)) (s_has_duplicates (n + 3)) (s_is_part n)) (s_listed_names (n + 4))
theorem s_names_in (n : Nat) : NamesInOk (Cn (n + 2)) 10 := namesIn_ok rfl (s_node_set n) (s_listed_names n)
theorem s_Network___init___any (n : Nat) : MakeAny (Cn (n + 7)) 11 := makeAny_ok rfl (s_is_name (n + 5)) (s_is_requirement n) (s_names_in (n + 4))
theorem s_law_names_in (n : Nat) : ListNmOk (Cn (n + 1)) 28 := lawNamesIn_ok rfl
theorem s_law_is_name (n : Nat) : LawIsNmOk (Cn (n + 1)) 33 := lawIsNm_ok rfl
theorem s_law_is_threshold_0 (n : Nat) : LawThr0Ok (Cn (n + 2)) 34 := lawThr0_ok rfl (s_law_is_name n)
theorem s_law_is_threshold (n : Nat) : LawThr1Ok (Cn (n + 3)) 34 := lawThr1_ok rfl (s_law_is_name (n + 1)) (s_law_is_threshold_0 n)
def tagX (x : Xc) : D := .tup [.str (if x.cls = "InvalidName" then "name" else if x.cls = "DuplicateNode" then "twice" else if x.cls = "InvalidRequirement" then "requirement" else "unknown"), x.fv.headD .non]
def tagO : Option Xc → D
  | none => .non
  | some x => tagX x
/-- _law_made -/
theorem s_made (n : Nat) {rows : List (D × D)} {d : D} (hr : ∀ p ∈ rows, Rk p) (hl : rows.length ≤ 4000) (hd : d = .lst (rows.map rxD) ∨ d = .tup (rows.map rxD)) : ∃ o, Due rows o ∧ Pc (Cn (n + 8)) 37 [d] (tagO o) := by
  obtain ⟨r, hm, e⟩ := s_Network___init___any n rows d (fun p hp => (hr p hp).x) hl hd
  have hnr : nr d = true := by
    have : nrL (rows.map rxD) = true := nrL_map fun p hp => by simp [rxD, plain_nr (hr p hp).x.n.pl, plain_nr (hr p hp).x.r.pl]
    rcases hd with rfl | rfl <;> simpa using this
  have xn : ∀ x, Due rows (some x) → nrL x.fv = true ∧ ((x.cls = "InvalidName" ∧ ∃ v, x = ⟨"InvalidName", ["value"], [v]⟩) ∨ (x.cls = "DuplicateNode" ∧ ∃ v, x = ⟨"DuplicateNode", ["name"], [v]⟩) ∨ (x.cls = "InvalidRequirement" ∧ ∃ v, x = ⟨"InvalidRequirement", ["name"], [v]⟩) ∨ (x.cls = "UnknownNode" ∧ ∃ v, x = ⟨"UnknownNode", ["name"], [v]⟩)) := by
    intro x h
    cases h with
    | unk => exact ⟨rfl, .inr (.inr (.inr ⟨rfl, _, rfl⟩))⟩
    | bad h =>
      have : ∀ (rows : List (D × D)) (seen : List Str), (∀ p ∈ rows, Rk p) → due1 seen rows = some x → nrL x.fv = true ∧ ((x.cls = "InvalidName" ∧ ∃ v, x = ⟨"InvalidName", ["value"], [v]⟩) ∨ (x.cls = "DuplicateNode" ∧ ∃ v, x = ⟨"DuplicateNode", ["name"], [v]⟩) ∨ (x.cls = "InvalidRequirement" ∧ ∃ v, x = ⟨"InvalidRequirement", ["name"], [v]⟩)) := by
        intro rows
        induction rows with
        | nil => intro seen _ h; cases h
        | cons p t ih =>
          intro seen hr h
          unfold due1 at h
          split at h
          · split at h
            · split at h
              · cases h; exact ⟨rfl, .inr (.inl ⟨rfl, _, rfl⟩)⟩
              · split at h
                · exact ih _ (fun q hq => hr q (.tail _ hq)) h
                · cases h; exact ⟨rfl, .inr (.inr ⟨rfl, _, rfl⟩)⟩
            · cases h
          · cases h
            exact ⟨by simp [plain_nr (hr p (.head _)).x.n.pl], .inl ⟨rfl, _, rfl⟩⟩
      obtain ⟨a, b⟩ := this rows [] hr h
      exact ⟨a, by rcases b with b | b | b; exact .inl b; exact .inr (.inl b); exact .inr (.inr (.inl b))⟩
  rcases hm.due with ⟨x, rfl, du⟩ | ⟨rs, rfl, _, _, _, du⟩
  · refine ⟨_, du, ?_⟩
    obtain ⟨q1, q2⟩ := xn x du
    have e0 := e st0
    refine Pc.run (df := f_37) rfl ?_ (by simp [hnr]) ?_
    · refine en_runD rfl ?_
      refine WXc.ws ?_
      rcases q2 with ⟨_, v, rfl⟩ | ⟨_, v, rfl⟩ | ⟨_, v, rfl⟩ | ⟨_, v, rfl⟩ <;>
        · simp [f_37, evSs, evS, evE, evL, e, evHd, evHs, evX, evXs, wipeO, slotOk, lookK, tagO, tagX, ofString_inj]
    · rcases q2 with ⟨_, v, rfl⟩ | ⟨_, v, rfl⟩ | ⟨_, v, rfl⟩ | ⟨_, v, rfl⟩ <;> simpa [tagO, tagX] using q1
  · refine ⟨_, du, ?_⟩
    refine Pc.run (df := f_37) rfl ?_ (by simp [hnr]) rfl
    refine en_runD rfl ?_
    simp [f_37, evSs, evS, evE, evL, e, tagO]
/-- _law_due -/
theorem s_due (n : Nat) {rows : List (D × D)} (hr : ∀ p ∈ rows, Rk p) (hl : rows.length ≤ 1000) : ∃ o, Due rows o ∧ Pc (Cn (n + 4)) 35 [.lst (rows.map rxD)] (tagO o) := by
  have hnr : nrL (rows.map rxD) = true := nrL_map fun p hp => by simp [rxD, plain_nr (hr p hp).x.n.pl, plain_nr (hr p hp).x.r.pl]
  have main : En (runD (Cn (n + 3)) f_35 [.lst (rows.map rxD)] st0) fun d _ => ∃ o, Due rows o ∧ d = tagO o := by
    refine en_runD rfl ?_
    have l0 : 0 ≤ line := by decide
    have l2 : 2 ≤ line := by decide
    simp [f_35, evSs, evS, evE, evL, ↓forw_eq, l0]
    refine ws_forW2 (fun i φ s => ∃ rs : Rows, rows.take i = rs.map encR ∧ GoodR rs ∧ due1 [] rows = due1 rs.ks (rows.drop i) ∧ ∃ a b, φ = [some (.lst (rows.map rxD)), some (.ref 0), a, b, none, none] ∧ s.get 0 = some (.lst (rs.ks.map .str))) (by
      rintro i φ s ⟨rs, e1, e2, e3, a, b, rfl, r⟩
      exact ⟨rs, e1, e2, e3, none, none, rfl, r⟩) 0 ⟨[], by simp, ⟨by simp, by simp, by simp, by simp⟩, by simp, none, none, rfl, rfl⟩ (fun j x φ s ed h => ?_) fun φ s h => ?_
    · obtain ⟨rs, e1, gr, e3, a, b, rfl, g0⟩ := h
      rw [Nat.zero_add] at e1 e3 ⊢
      rw [List.getElem?_map] at ed
      cases ep : rows[j]? with
      | none => rw [ep] at ed; cases ed
      | some p =>
        rw [ep] at ed
        obtain rfl : rxD p = x := Option.some.inj ed
        have hj := (List.getElem?_eq_some_iff.mp ep).1
        have hp : rows[j] = p := (List.getElem?_eq_some_iff.mp ep).2
        have R := hr p (List.mem_of_getElem? ep)
        have dr : rows.drop j = p :: rows.drop (j + 1) := by rw [← hp, ← List.drop_eq_getElem_cons hj]
        have tk : rows.take (j + 1) = rows.take j ++ [p] := by rw [List.take_succ_eq_append_getElem hj, hp]
        rw [dr] at e3
        obtain ⟨nn, r⟩ := p
        have c1 := s_law_is_name (n + 2) nn R.x.n.pl
        have c2 := s_law_is_threshold n r R.x.r
        rw [show thr isPt r = isRq r from R.thr] at c2
        have bt : ∀ (st : Store) (φ : OM.Fr), bindT st (.tp [.nm 2, .nm 3]) (rxD (nn, r)) φ = some ((φ.set 2 (some nn)).set 3 (some r)) := fun _ _ => rfl
        have hlen : (rs.ks.map D.str).length < line := by
          have e := congrArg List.length e1
          rw [List.length_map, List.length_take] at e
          rw [List.length_map, List.length_map]
          exact Nat.lt_of_le_of_lt (show rs.length ≤ 1000 by omega) (by decide)
        cases hn1 : isNm nn with
        | false =>
          rw [hn1] at c1
          simp [fbody, evSs, evS, evE, evL, bt, c1, l2]
          refine ⟨_, .bad (x := ⟨"InvalidName", ["value"], [nn]⟩) ?_, rfl⟩
          rw [e3]
          unfold due1
          rw [if_neg (by rw [hn1]; exact Bool.false_ne_true)]
        | true =>
          obtain ⟨x, rfl⟩ := nm_str hn1
          rw [hn1] at c1
          have hin := in_ref (x := x) g0
          by_cases hx : x ∈ rs.ks
          · simp [fbody, evSs, evS, evE, evL, bt, c1, hin, hx, l2]
            refine ⟨_, .bad (x := ⟨"DuplicateNode", ["name"], [.str x]⟩) ?_, rfl⟩
            rw [e3]
            unfold due1
            rw [if_pos hn1]
            dsimp only
            rw [if_pos hx]
          · cases hq : isRq r with
            | false =>
              rw [hq] at c2
              simp [fbody, evSs, evS, evE, evL, bt, c1, hin, hx, c2, l2]
              refine ⟨_, .bad (x := ⟨"InvalidRequirement", ["name"], [.str x]⟩) ?_, rfl⟩
              rw [e3]
              unfold due1
              rw [if_pos hn1]
              dsimp only
              rw [if_neg hx, if_neg (by rw [hq]; exact Bool.false_ne_true)]
            | true =>
              rw [hq] at c2
              obtain ⟨c, ps, rfl, v, w⟩ := isRq_iff.mp hq
              simp [fbody, evSs, evS, evE, evL, bt, c1, hin, hx, c2, g0, -List.map_append]
              have hlen' : rs.length < line := by simpa using hlen
              simp [hlen', -List.map_append]
              refine ⟨rs ++ [(x, (c, ps))], ?_, gr.snoc hn1 hx v w, ?_, by simp⟩
              · rw [tk, e1, List.map_append]; rfl
              · rw [e3, due1_step hn1 hx hq]
                simp
    · obtain ⟨rs, e1, gr, e3, a, b, rfl, g0⟩ := h
      rw [Nat.zero_add, List.length_map, List.take_length] at e1
      have hrl : rs.length ≤ 1000 := by
        have e := congrArg List.length e1
        rw [List.length_map] at e
        omega
      have er : rows.map rxD = rs.map rowD := by rw [e1, enc_rows]
      have inn : ∀ st x, inD st (.str x) (.lst (rs.ks.map D.str)) = some (decide (x ∈ rs.ks)) := fun st x => in_lst
      rw [er] at *
      simp [g0, -List.map_map]
      generalize s.put 0 none = s2
      generalize hKs : rs.ks.map D.str = KS at inn
      refine ws_forW2 (fun i φ s => s = s2 ∧ AllIn rs (rs.take i) ∧ ∃ a b e, φ = [some (.lst (rs.map rowD)), some (.lst KS), a, b, e, none]) (by
        rintro i φ s ⟨rfl, h, a, b, e, rfl⟩
        exact ⟨rfl, h, none, none, none, rfl⟩) 0 ⟨rfl, (fun q hq => by simp at hq), _, _, _, by rw [← hKs]⟩ (fun j x φ s ed h => ?_) fun φ s h => ?_
      · obtain ⟨rfl, hb, a, b, e, rfl⟩ := h
        rw [Nat.zero_add] at hb ⊢
        rw [List.getElem?_map] at ed
        cases ep : rs[j]? with
        | none => rw [ep] at ed; cases ed
        | some p =>
          rw [ep] at ed
          obtain rfl : rowD p = x := Option.some.inj ed
          have hmem : p ∈ rs := List.mem_of_getElem? ep
          have hj := (List.getElem?_eq_some_iff.mp ep).1
          have hpe : rs[j] = p := (List.getElem?_eq_some_iff.mp ep).2
          have hli := few_listed (gr.few p hmem)
          have c3 : Pc (Cn (n + 3)) 28 [Rt.d p.2] _ := s_law_names_in (n + 2) p.2.1 p.2.2 (by omega)
          have t1 : ∀ st φ, (∃ e : Option D, φ = [some (.lst (rs.map rowD)), some (.lst KS), some (.str p.1), some (Rt.d p.2), e, none]) → turns (tbody (Cn (n + 3)) (.nm 5) (some (.cmp .notin (.var 5) (.var 1))) (.var 5) φ) ((flat p.2.2).map .str) st = ok (((flat p.2.2).filter fun u => !decide (u ∈ rs.ks)).map .str) st := by
            rintro st φ ⟨e, rfl⟩
            rw [turns_filt (p := fun u => !decide (u ∈ rs.ks))]
            intro u hu
            simp [tbody, evC, evE, evL, inn]
            by_cases hx : u ∈ rs.ks
            · simp [hx]
            · simp [hx]
          have hfl : (flat p.2.2).length < line := by rw [flat_len]; exact Nat.lt_of_le_of_lt hli (by decide)
          have hfl2 : ((flat p.2.2).filter fun u => !decide (u ∈ rs.ks)).length ≤ line := Nat.le_trans (List.length_filter_le _ _) (Nat.le_of_lt hfl)
          have so : ∀ st, biF st .sorted [.lst (((flat p.2.2).filter fun u => !decide (u ∈ rs.ks)).map .str)] = some (.lst ((sortT ((flat p.2.2).filter fun u => !decide (u ∈ rs.ks))).map .str)) := fun st => sorted_strs hfl2
          have fd := nodeSet_find (L := flat p.2.2) (p := fun u => !decide (u ∈ rs.ks))
          generalize hS : sortT ((flat p.2.2).filter fun u => !decide (u ∈ rs.ks)) = S at so fd
          have hit : itemsOf (.lst ((flat p.2.2).map D.str)) = some ((flat p.2.2).map D.str) := rfl
          simp [fbody, evSs, evS, evE, evL, c3, ↓comp_eq, hfl, -List.map_map]
          rw [t1 _ _ ⟨e, rfl⟩]
          simp [so]
          cases S with
          | nil =>
            simp [evSs]
            rw [List.take_succ_eq_append_getElem hj, hpe]
            refine hb.snoc fun u hu => ?_
            have := List.find?_eq_none.mp (show (nodeSet (flat p.2.2)).find? _ = none from fd) u hu
            simpa using this
          | cons u t =>
            have hz : idxD s (.lst ((u :: t).map D.str)) (.int 0) = some (.str u) := idx_of (k := 0) rfl rfl rfl
            have hz' : idxD s (.lst (D.str u :: t.map D.str)) (.int 0) = some (.str u) := hz
            have hpos : (0 : Int) < (t.length : Int) + 1 := by omega
            simp [hpos, OM.ixN, l2]
            refine ⟨some ⟨"UnknownNode", ["name"], [.str u]⟩, .unk gr e1 ?_, rfl⟩
            have er2 : rs = rs.take j ++ p :: rs.drop (j + 1) := by rw [← hpe, ← List.drop_eq_getElem_cons hj, List.take_append_drop]
            have key : (rs.take j ++ p :: rs.drop (j + 1)).findSome? (fun p => (nodeSet (flat p.2.2)).find? fun u => !decide (u ∈ rs.ks)) = some u := by
              rw [List.findSome?_append, List.findSome?_eq_none_iff.mpr fun q hq => find_none fun y hy => by simp [hb q hq y hy]]
              rw [Option.none_or, List.findSome?_cons, fd]
              rfl
            unfold due2
            rw [← er2] at key
            exact key
      · obtain ⟨rfl, hb, a, b, e, rfl⟩ := h
        rw [Nat.zero_add, List.length_map, List.take_length] at hb
        refine ⟨none, .ok gr e1 ?_, rfl⟩
        unfold due2
        exact List.findSome?_eq_none_iff.mpr fun q hq => find_none fun y hy => by simp [hb q hq y hy]
  obtain ⟨d, s, e, o, du, rfl⟩ := main
  refine ⟨o, du, Pc.run (df := f_35) rfl ⟨_, s, e, rfl⟩ (by simpa using hnr) ?_⟩
  cases du with
  | unk => rfl
  | ok => rfl
  | bad h =>
    have : ∀ (rows : List (D × D)) (seen : List Str) (x : Xc), (∀ p ∈ rows, Rk p) → due1 seen rows = some x → nr (tagX x) = true := by
      intro rows
      induction rows with
      | nil => intro seen x _ h; cases h
      | cons p t ih =>
        intro seen x hr h
        unfold due1 at h
        split at h
        · split at h
          · split at h
            · cases h; rfl
            · split at h
              · exact ih _ _ (fun q hq => hr q (.tail _ hq)) h
              · cases h; rfl
          · cases h
        · cases h
          simp [tagX, plain_nr (hr p (.head _)).x.n.pl]
    exact this rows [] _ hr h
def oddN : List D := [.str "", .str "A", .str "ninechars", .str "a b", .int 7, .non, .bl true, .tup [.str "a"], .lst [.str "a"]]
def badR : List D := [.non, .str "a", .int 3, .tup [], .lst [.int 1, .lst [.str "a"]], .tup [.int 0, .tup [.str "a"]], .tup [.int 2, .tup [.str "a"]], .tup [.int 1, .lst [.str "a"]], .tup [.bl true, .tup [.str "a"]], .tup [.int 1, .tup [.str "a", .str "a"]]]
theorem odd_all : (oddN.all smallB) = true := by decide +kernel
theorem bad_all : (badR.all fun v => smallB v && !(thr isPt v)) = true := by decide +kernel
theorem rk_name {p : D × D} (h : Rk p) {v : D} (hv : v ∈ oddN) : Rk (v, p.2) := by
  obtain ⟨a, b, _⟩ := smallB_ok (List.all_eq_true.mp odd_all v hv)
  exact ⟨⟨a, h.x.r, h.x.l⟩, b, h.f⟩
theorem rk_other {p q : D × D} (h : Rk p) (k : Rk q) : Rk (q.1, p.2) := ⟨⟨k.x.n, h.x.r, h.x.l⟩, k.dn, h.f⟩
theorem rk_bad {p : D × D} (h : Rk p) {v : D} (hv : v ∈ badR) : Rk (p.1, v) := by
  have q := List.all_eq_true.mp bad_all v hv
  rw [Bool.and_eq_true, Bool.not_eq_true'] at q
  obtain ⟨a, b, c⟩ := smallB_ok q.1
  exact ⟨⟨h.x.n, a, c⟩, h.dn, fun z => by rw [q.2] at z; cases z⟩
theorem rk_strange {p : D × D} (h : Rk p) {x : Str} (hx : x ∈ (["zz", "aa", "b", "m"] : List Str)) : Rk (p.1, .tup [.int 1, .tup [.str x, .str "nowhere"]]) := by
  have key : (["zz", "aa", "b", "m"] : List Str).all (fun x => smallB (.tup [.int 1, .tup [.str x, .str "nowhere"]]) && thr isPt (.tup [.int 1, .tup [.str x, .str "nowhere"]])) = true := by decide +kernel
  have q := List.all_eq_true.mp key x hx
  rw [Bool.and_eq_true] at q
  obtain ⟨a, b, c⟩ := smallB_ok q.1
  refine ⟨⟨h.x.n, a, c⟩, h.dn, fun _ => ?_⟩
  obtain ⟨c0, ps, e, v⟩ := thr_vq q.2
  have e2 : rqD c0 ps = rqD 1 [Pt.nm x, Pt.nm "nowhere"] := e.symm
  obtain ⟨rfl, rfl⟩ := rqD_inj e2
  show isRq (rqD 1 [Pt.nm x, Pt.nm "nowhere"]) = true
  rw [isRq_rq v]
  exact few_of (by decide : (2 : Nat) ≤ 8)
/-- _law_changed -/
theorem changed_en (n : Nat) {st : Store} {k : Nat} {rows : List (D × D)} (hb : Bx st k) (hk : k ≤ 5000000) (hr : ∀ p ∈ rows, Rk p) (h1 : 1 ≤ rows.length) (h8 : rows.length ≤ 8) {K : D → Store → Prop}
    (q : ∀ (rows' : List (D × D)) (k' : Nat) st', (∀ p ∈ rows', Rk p) → rows'.length ≤ rows.length → k ≤ k' → k' ≤ k + 10 → Bx st' k' → Kp st st' → K (.lst (rows'.map rxD)) st') : En (Cn (n + 3) 36 [.ref 1, .lst (rows.map rxD)] st) K := by
  show En (callN (K07.rows.map (·.df)) (n + 2 + 1) 36 _ _) _
  rw [call_run (df := f_36) rfl]
  refine en_runD rfl ?_
  have l0 : 0 ≤ line := by decide
  have l1 : 1 ≤ line := by decide
  have l2 : 2 ≤ line := by decide
  have l9 : 9 ≤ line := by decide
  have l10 : 10 ≤ line := by decide
  have l4 : 4 ≤ line := by decide
  have lr : rows.length ≤ line := Nat.le_trans h8 (by decide)
  simp [f_36, evSs, evS, evE, evL, evO, -i_lst]
  refine take_en (s_law_take n) hb (by omega) (by omega) (by omega) fun r0 s1 a0 a1 b1 kp1 _ => ?_
  obtain ⟨d0, e0, i0⟩ := idx_at (st := s1) (xs := rows.map rxD) a0 (by simpa using a1)
  rw [List.getElem?_map] at e0
  cases ep : rows[r0.toNat]? with
  | none => rw [ep] at e0; cases e0
  | some p =>
    rw [ep] at e0
    obtain rfl : rxD p = d0 := Option.some.inj e0
    have hp : p ∈ rows := List.mem_of_getElem? ep
    have R := hr p hp
    have hlt : r0.toNat < rows.length := (List.getElem?_eq_some_iff.mp ep).1
    have bt : ∀ (st : Store) (φ : OM.Fr), bindT st (.tp [.nm 3, .nm 4]) (rxD p) φ = some ((φ.set 3 (some p.1)).set 4 (some p.2)) := fun _ _ => rfl
    have fin : ∀ (v w : D) (k' : Nat) (s : Store), Rk (v, w) → k ≤ k' → k' ≤ k + 10 → Bx s k' → Kp st s →
        ∃ a4, ((cut (rows.map rxD) none (some r0)).length + 1 ≤ line ∧ D.lst (cut (rows.map rxD) none (some r0) ++ [.tup [v, w]]) = a4) ∧ ∃ a, binop s .add a4 (.lst (cut (rows.map rxD) (some (r0 + 1)) none)) = some a ∧ K a s := by
      intro v w k' s hvw k1 k2 bx kp
      have e1 : cut (rows.map rxD) none (some r0) = (rows.take r0.toNat).map rxD := by rw [cut_to _ a0, List.map_take]
      have e2 : cut (rows.map rxD) (some (r0 + 1)) none = (rows.drop (r0.toNat + 1)).map rxD := by
        rw [cut_from _ (by omega), List.map_drop]
        congr 2
        omega
      have z1 : ((rows.take r0.toNat).map rxD).length + 1 ≤ line := by
        rw [List.length_map, List.length_take]
        exact Nat.le_trans (show _ ≤ 9 by omega) (by decide)
      have z2 : ((rows.take r0.toNat).map rxD).length + 1 + ((rows.drop (r0.toNat + 1)).map rxD).length ≤ line := by
        rw [List.length_map, List.length_map, List.length_take, List.length_drop]
        exact Nat.le_trans (show _ ≤ 9 by omega) (by decide)
      generalize hA : (rows.take r0.toNat).map rxD = A at e1 z1 z2
      generalize hB : (rows.drop (r0.toNat + 1)).map rxD = B at e2 z2
      have := q (rows.take r0.toNat ++ (v, w) :: rows.drop (r0.toNat + 1)) k' s (fun p hp => by
        rcases List.mem_append.mp hp with hp | hp
        · exact hr p (List.mem_of_mem_take hp)
        · rcases List.mem_cons.mp hp with rfl | hp
          · exact hvw
          · exact hr p (List.mem_of_mem_drop hp)) (by simp; omega) k1 k2 bx kp
      rw [List.map_append, List.map_cons, hA, hB] at this
      rw [e1, e2]
      exact ⟨.lst (A ++ [.tup [v, w]]), ⟨z1, rfl⟩, .lst (A ++ .tup [v, w] :: B), by simp [z2], this⟩
    simp [i0, bt, -i_lst]
    refine take_en (s_law_take n) b1 (by omega) (by decide) (by decide) fun r1 s2 c0 c1 b2 kp2 _ => ?_
    have hw : r1 = 0 ∨ r1 = 1 ∨ r1 = 2 ∨ r1 = 3 ∨ r1 = 4 := by omega
    rcases hw with rfl | rfl | rfl | rfl | rfl
    · simp [-i_lst, l1, l2, l9]
      refine take_en (s_law_take n) b2 (by omega) (by decide) (by decide) fun r2 s3 f0 f1 b3 kp3 _ => ?_
      obtain ⟨v, hv, iv⟩ := idx_in (st := s3) (xs := oddN) f0 f1
      exact ⟨v, iv, fin v p.2 _ s3 (rk_name R hv) (by omega) (by omega) b3 ((kp1.trans kp2).trans kp3)⟩
    · simp [-i_lst, l1, l2]
      refine take_en (s_law_take n) b2 (by omega) (by omega) (by omega) fun r2 s3 f0 f1 b3 kp3 _ => ?_
      obtain ⟨d2, e2, i2⟩ := idx_at (st := s3) (xs := rows.map rxD) f0 (by simpa using f1)
      rw [List.getElem?_map] at e2
      cases eq : rows[r2.toNat]? with
      | none => rw [eq] at e2; cases e2
      | some p2 =>
        rw [eq] at e2
        obtain rfl : rxD p2 = d2 := Option.some.inj e2
        have R2 := hr p2 (List.mem_of_getElem? eq)
        have i3 : idxD s3 (rxD p2) (.int 0) = some p2.1 := rfl
        exact ⟨_, i2, _, i3, fin p2.1 p.2 _ s3 (rk_other R R2) (by omega) (by omega) b3 ((kp1.trans kp2).trans kp3)⟩
    · simp [-i_lst, l1, l2, l10, l0]
      refine take_en (s_law_take n) b2 (by omega) (by decide) (by decide) fun r2 s3 f0 f1 b3 kp3 _ => ?_
      obtain ⟨v, hv, iv⟩ := idx_in (st := s3) (xs := badR) f0 f1
      exact ⟨v, iv, fin p.1 v _ s3 (rk_bad R hv) (by omega) (by omega) b3 ((kp1.trans kp2).trans kp3)⟩
    · simp [-i_lst, l1, l2, l4]
      refine take_en (s_law_take n) b2 (by omega) (by decide) (by decide) fun r2 s3 f0 f1 b3 kp3 _ => ?_
      obtain ⟨v, hv, iv⟩ := idx_in (st := s3) (xs := (["zz", "aa", "b", "m"] : List Str).map .str) f0 f1
      obtain ⟨x, hx, rfl⟩ := List.mem_map.mp hv
      exact ⟨.str x, iv, fin p.1 _ _ s3 (rk_strange R hx) (by omega) (by omega) b3 ((kp1.trans kp2).trans kp3)⟩
    · simp [-i_lst, l1, l2]
      have e1 : cut (rows.map rxD) none (some r0) = (rows.take r0.toNat).map rxD := by rw [cut_to _ a0, List.map_take]
      have e2 : cut (rows.map rxD) (some (r0 + 1)) none = (rows.drop (r0.toNat + 1)).map rxD := by
        rw [cut_from _ (by omega), List.map_drop]
        congr 2
        omega
      have z2 : ((rows.take r0.toNat).map rxD).length + ((rows.drop (r0.toNat + 1)).map rxD).length ≤ line := by
        rw [List.length_map, List.length_map, List.length_take, List.length_drop]
        exact Nat.le_trans (show _ ≤ 9 by omega) (by decide)
      have := q (rows.take r0.toNat ++ rows.drop (r0.toNat + 1)) _ s2 (fun p hp => by
        rcases List.mem_append.mp hp with hp | hp
        · exact hr p (List.mem_of_mem_take hp)
        · exact hr p (List.mem_of_mem_drop hp)) (by simp; omega) (by omega) (by omega) b2 (kp1.trans kp2)
      rw [List.map_append] at this
      rw [e1, e2]
      exact ⟨_, ⟨z2, rfl⟩, this⟩
def tb0 : List Sm := [.asg (.nm 3) (.call 27 [(.var 1), (.cst (.int 6))]), .forw [4] (.nm 4) (.range (.cst (.int 0)) (.call 22 [(.var 1), (.cst (.int 3))])) [.ite (.cmp .gt (.bi false .len [(.var 3)]) (.cst (.int 0))) [.asg (.nm 3) (.call 36 [(.var 1), (.var 3)])] []], .asg (.nm 5) (.pcall 35 [(.var 3)]), .forw [6, 7] (.nm 6) (.range (.cst (.int 0)) (.cst (.int 2))) [.asg (.nm 7) (.pcall 37 [(.idx (.lst false [(.var 3), (.bi false .tuple [(.var 3)])]) (.var 6))]), .ite (.cmp .ne (.var 7) (.var 5)) [.ret (.cst (.bl false))] [], .ite (.and (.isnone true (.var 5)) (.cmp .ne (.isi (.idx (.var 7) (.cst (.int 1))) [.bool]) (.isi (.idx (.var 5) (.cst (.int 1))) [.bool]))) [.ret (.cst (.bl false))] []]]
theorem law_body : f_38.body = [.asg (.nm 1) (.call 20 [(.var 0)]), .forw [2, 3, 4, 5, 6, 7] (.nm 2) (.range (.cst (.int 0)) (.cst (.int 4))) tb0, .ret (.cst (.bl true))] := rfl
theorem due_tm {rows : List (D × D)} {o : Option Xc} (hr : ∀ p ∈ rows, Rk p) (h : Due rows o) : OM.plain (tagO o) = true ∧ dep (tagO o) ≤ 60 ∧ ∀ x, o = some x → ∃ s v, tagO o = .tup [.str s, v] ∧ OM.plain v = true := by
  cases h with
  | unk => exact ⟨rfl, (by show max 0 (max 0 0) + 1 ≤ 60; decide), fun x e => ⟨_, _, rfl, rfl⟩⟩
  | ok => exact ⟨rfl, by decide, fun x e => by cases e⟩
  | bad h =>
    have : ∀ (rows : List (D × D)) (seen : List Str) (x : Xc), (∀ p ∈ rows, Rk p) → due1 seen rows = some x → ∃ s v, tagX x = .tup [.str s, v] ∧ OM.plain v = true ∧ dep v ≤ 50 := by
      intro rows
      induction rows with
      | nil => intro seen x _ h; cases h
      | cons p t ih =>
        intro seen x hr h
        unfold due1 at h
        split at h
        · split at h
          · split at h
            · cases h; exact ⟨_, _, rfl, rfl, Nat.zero_le _⟩
            · split at h
              · exact ih _ _ (fun q hq => hr q (.tail _ hq)) h
              · cases h; exact ⟨_, _, rfl, rfl, Nat.zero_le _⟩
          · cases h
        · cases h
          exact ⟨_, _, rfl, (hr p (.head _)).x.n.pl, (hr p (.head _)).dn⟩
    obtain ⟨s, v, e, hv, hd⟩ := this rows [] _ hr h
    have e' : tagO (some _) = .tup [.str s, v] := e
    refine ⟨?_, ?_, fun x _ => ⟨s, v, e', hv⟩⟩
    · rw [e']; simp [OM.plain, plainL, hv]
    · rw [e']
      show max 0 (max (dep v) 0) + 1 ≤ 60
      omega
theorem isTy_pl (st : Store) {v : D} (h : OM.plain v = true) : ∃ b, isTys st v [.bool] = some b := by
  cases v <;> first | exact ⟨_, rfl⟩ | cases h
theorem plain : ∀ ns : List Int, ns.length ≤ 63 → ∃ st', callN (rows.map (·.df)) 30 38 [.scr ns] st0 = ok (.bl true) st' := fun ns hns => law_end (df := f_38) rfl (by
  refine en_runD rfl ?_
  rw [law_body, show f_38.ns = 8 from rfl, show f_38.np = 1 from rfl]
  simp [evSs, evS, evE, evL, ↓forw_eq]
  refine box_en (s_law_box 28) (by omega) fun s1 b1 => ?_
  refine ws_forW2 (fun i φ s => ∃ k x2 x3 x4 x5 x6 x7, k ≤ 10000 * i ∧ Bx s k ∧ φ = [some (.scr ns), some (.ref 1), x2, x3, x4, x5, x6, x7]) (by
    rintro i φ s ⟨k, x2, x3, x4, x5, x6, x7, h, b, rfl⟩
    exact ⟨k, none, none, none, none, none, none, h, b, rfl⟩) 0 ⟨0, _, _, _, _, _, _, by omega, b1, rfl⟩ (fun j x φ s ed h => ?_) fun φ s h => ?_
  · obtain ⟨k, x2, x3, x4, x5, x6, x7, hk, b, rfl⟩ := h
    have hj : j < 4 := by
      have := (List.getElem?_eq_some_iff.mp ed).1
      simpa using this
    rw [Nat.zero_add] at hk ⊢
    simp [fbody, tb0, evSs, evS, evE, evL, ↓forw_eq]
    refine drows_en (s_law_rows 24) b (by omega) (by decide) (by decide) fun rs k1 s2 hR hR1 hR6 q1 q2 b2 kp2 => ?_
    have h6 : rs.length ≤ 6 := by omega
    refine take_en (s_law_take 27) b2 (by omega) (by decide) (by decide) fun m s3 m0 m1 b3 kp3 _ => ?_
    rw [← enc_rows]
    have ht : (m - 0).toNat ≤ 2 := by omega
    have hr0 : (0 ≤ m ∧ True) := ⟨m0, trivial⟩
    simp [show m ≤ 1000000 by omega, show m.natAbs < 4611686018427387904 by omega, -List.map_map]
    refine ws_forW2 (fun i φ s => ∃ (rows : List (D × D)) (k' : Nat) (y4 : Option D), (∀ p ∈ rows, Rk p) ∧ rows.length ≤ 8 ∧ k' ≤ k1 + 1 + 10 * i ∧ Bx s k' ∧ φ = [some (.scr ns), some (.ref 1), some x, some (.lst (rows.map rxD)), y4, x5, x6, x7]) (by
      rintro i φ s ⟨rows, k', y4, r1, r2, r3, r4, rfl⟩
      exact ⟨rows, k', none, r1, r2, r3, r4, rfl⟩) 0 ⟨rs.map encR, k1 + 1, _, fun p hp => (by obtain ⟨p0, hp0, rfl⟩ := List.mem_map.mp hp; exact rk_row hR hp0), by rw [List.length_map]; omega, by omega, b3, rfl⟩ (fun i2 y φ s ed2 h => ?_) fun φ s h => ?_
    · obtain ⟨rows, k', y4, r1, r2, r3, r4, rfl⟩ := h
      rw [Nat.zero_add] at r3 ⊢
      have hi2 : i2 < 2 := by
        have := (List.getElem?_eq_some_iff.mp ed2).1
        simp at this
        omega
      by_cases he : rows = []
      · subst he
        simp [fbody, evSs, evS, evE, evL]
        exact ⟨[], by simp, by simp, k', by omega, r4, rfl⟩
      · have hp : 0 < rows.length := List.length_pos_iff.mpr he
        simp [fbody, evSs, evS, evE, evL, hp]
        refine changed_en 26 r4 (by omega) r1 hp r2 fun rows' k2 s4 g1 g2 g3 g4 g5 g6 => ?_
        exact ⟨rows', fun a b h => g1 (a, b) h, by omega, k2, by omega, g5, rfl⟩
    · obtain ⟨rows, k', y4, r1, r2, r3, r4, rfl⟩ := h
      have hk' : k' ≤ k1 + 1 + 20 := by
        refine Nat.le_trans r3 ?_
        simp
        omega
      obtain ⟨o, du, c1⟩ := s_due 25 r1 (by omega)
      obtain ⟨o1, du1, m1⟩ := s_made 21 r1 (d := .lst (rows.map rxD)) (by omega) (.inl rfl)
      obtain ⟨o2, du2, m2⟩ := s_made 21 r1 (d := .tup (rows.map rxD)) (by omega) (.inr rfl)
      have e1 := du1.uniq du
      have e2 := du2.uniq du
      rw [e1] at m1
      rw [e2] at m2
      clear du1 du2 e1 e2
      obtain ⟨p1, p2, p3⟩ := due_tm r1 du
      have er : ∀ st, OM.plain (tagO o) = true → dep (tagO o) ≤ 64 → eqD st (tagO o) (tagO o) = some true := fun st a b => eq_refl a b
      have p4 : tagO o = .non ∨ ∃ s v, tagO o = .tup [.str s, v] ∧ OM.plain v = true := by
        cases o with
        | none => exact .inl rfl
        | some x => exact .inr (p3 x rfl)
      generalize tagO o = T at *
      simp [-i_lst, c1]
      refine ws_forW2 (fun i φ s' => s' = s ∧ ∃ z6 z7, φ = [some (.scr ns), some (.ref 1), some x, some (.lst (rows.map rxD)), y4, some T, z6, z7]) (by
        rintro i φ s ⟨rfl, z6, z7, rfl⟩
        exact ⟨rfl, none, none, rfl⟩) 0 ⟨rfl, _, _, rfl⟩ (fun i3 y φ s' ed3 h => ?_) fun φ s' h => ?_
      · obtain ⟨rfl, z6, z7, rfl⟩ := h
        have hi : i3 < 2 := by
          have := (List.getElem?_eq_some_iff.mp ed3).1
          simpa using this
        have hy : y = .int i3 := by
          rw [List.getElem?_map, List.getElem?_eq_getElem (by simpa using hi)] at ed3
          have := Option.some.inj ed3
          rw [← this]
          simp
        subst hy
        have l2 : 2 ≤ line := by decide
        have hmade : ∃ dd, idxD s' (.lst [.lst (rows.map rxD), .tup (rows.map rxD)]) (.int i3) = some dd ∧ Pc (Cn 29) 37 [dd] T := by
          have : i3 = 0 ∨ i3 = 1 := by omega
          rcases this with rfl | rfl
          · exact ⟨_, rfl, m1⟩
          · exact ⟨_, rfl, m2⟩
        obtain ⟨dd, id1, md⟩ := hmade
        have eqs := er s' p1 (by omega)
        simp [fbody, evSs, evS, evE, evL, l2, id1, md, eqs, -i_lst]
        rcases p4 with rfl | ⟨sx, v, rfl, hv⟩
        · simp [OM.isNon]
        · obtain ⟨bb, hbb⟩ := isTy_pl s' hv
          have i5 : idxD s' (.tup [.str sx, v]) (.int 1) = some v := rfl
          simp [OM.isNon, i5, hbb, -i_tup]
      · obtain ⟨rfl, z6, z7, rfl⟩ := h
        exact ⟨k', by omega, r4, _, _, _, _, _, _, rfl⟩
  · obtain ⟨k, x2, x3, x4, x5, x6, x7, hk, b, rfl⟩ := h
    simp)
abbrev R : PySem.W.OpenRow := PySem.W.OpenLaw.row PySem.Challenge.rw_oathmoot_k07_networks_refused
abbrev hk : PySem.W.Hook := hookM 7 (fas rows bn cls) (dfs rows xr) (exB rows cs xr) (tfs rows)
def ob (s : PySem.W.SharedT) : He.AlD := obsMG 7 (fas rows bn cls) (dfs rows xr) (exB rows cs xr) (tfs rows) (HandSHeadRun.getT s)
theorem ob_eq (s : PySem.W.SharedT) : ob s = hk.obs s.abs := obsMG_eq (HandSHeadRun.getT_eq s)
theorem run (w : World) : HandSHeadRun.RunEq R (PySem.W.view R.prog [43]) hk ob 4000 others w := by
  intro os
  kernel_rfl
end K07
open PySem PySem.W PySem.Calls PyProof.Rows
theorem PySem.Challenge.cw_oathmoot_k07_networks_refused_holds : PySem.Challenge.rw_oathmoot_k07_networks_refused.Holds := by
  w_on; o_law
  refine HandSHeadRun.head_any (r := OpenLaw.row PySem.Challenge.rw_oathmoot_k07_networks_refused) (q := view (OpenLaw.row PySem.Challenge.rw_oathmoot_k07_networks_refused).prog [43]) (H := K07.hk) (ob := K07.ob) (M := 4000) (loose := K07.others) (d := HandSHeadRun.topDef (OpenLaw.row PySem.Challenge.rw_oathmoot_k07_networks_refused).prog 43) (kwd := []) K07.ob_eq
    (by kernel_rfl) (fun s => by kernel_rfl) K07.run (by kernel_rfl) (by kernel_rfl) (by kernel_rfl) (by rfl) (by first | assumption | decide +kernel) (by decide +kernel) ⟨rfl, rfl, rfl, rfl, rfl, by decide +kernel⟩ ?hw ?hc
  case hw => w_witness2
  case hc => exact OM.walk_end (l := PySem.Challenge.rw_oathmoot_k07_networks_refused) (n := 63) (k := 30) (kk := 40) (lf := 38) (x := "_law_script") (hn0 := 7) rfl (by decide) (by kernel_rfl) ⟨rfl, by decide, by decide⟩ (by kernel_rfl) K07.chk rfl rfl rfl rfl rfl K07.plain
