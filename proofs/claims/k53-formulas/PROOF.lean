import PyProof.Rows.All
import Wide.All
import OpenK.AllK
import Wide.FinOn
import HandS.ForMost
import HandS.ForExc
import HandS.TryMany
import HandS.CallSlots
import HandS.IsInst
import HandS.Flow
import HandS.Style
import HandS.Deep
import HandS.ExcIs
import HandS.ExcInit
import HandS.SuiteRaise
import HandS.RaiseFrom
import HandS.Conv
import HandS.DictComp
import HandS.DictTup
import HandS.StrMore
import HandS.Wide
import HandS.TupAny
import HandS.HeadHook4
import HandS.HeadEnd
import HandS.Head2
import HandS.Zip
import HandS.Strs
import HandS.TupSets
import HandS.SetIn
import HandS.Defaults
import HandS.Rev
import HandS.SortInts
import HandS.RaiseMore
import HandS.Small
import HandS.SetKeys
import PySem.Challenge.RW_leatever_k53_formulas
set_option Elab.async false
set_option linter.all false
set_option maxRecDepth 100000
set_option maxHeartbeats 8000000
/-! PXa: data with the tuples written out, a small language, its evaluator (a function). -/
namespace PX
open PySem L2

/-! ### data -/
/-- a value: tuples and locked lists are written out, the rest is named by its number in the store -/
inductive D where
  | non | bl (b : Bool) | int (i : Int) | str (s : Str) | tup (xs : List D) | lst (xs : List D) | ref (n : Nat)
  deriving Inhabited
mutual
def decD : (a b : D) → Decidable (a = b)
  | .non, .non => .isTrue rfl
  | .bl a, .bl b => if h : a = b then .isTrue (by rw [h]) else .isFalse fun e => h (by injection e)
  | .int a, .int b => if h : a = b then .isTrue (by rw [h]) else .isFalse fun e => h (by injection e)
  | .str a, .str b => if h : a = b then .isTrue (by rw [h]) else .isFalse fun e => h (by injection e)
  | .tup a, .tup b => match decDs a b with
    | .isTrue h => .isTrue (by rw [h])
    | .isFalse h => .isFalse fun e => h (by injection e)
  | .lst a, .lst b => match decDs a b with
    | .isTrue h => .isTrue (by rw [h])
    | .isFalse h => .isFalse fun e => h (by injection e)
  | .ref a, .ref b => if h : a = b then .isTrue (by rw [h]) else .isFalse fun e => h (by injection e)
  | .non, .bl _ | .non, .int _ | .non, .str _ | .non, .tup _ | .non, .lst _ | .non, .ref _ => .isFalse nofun
  | .bl _, .non | .bl _, .int _ | .bl _, .str _ | .bl _, .tup _ | .bl _, .lst _ | .bl _, .ref _ => .isFalse nofun
  | .int _, .non | .int _, .bl _ | .int _, .str _ | .int _, .tup _ | .int _, .lst _ | .int _, .ref _ => .isFalse nofun
  | .str _, .non | .str _, .bl _ | .str _, .int _ | .str _, .tup _ | .str _, .lst _ | .str _, .ref _ => .isFalse nofun
  | .tup _, .non | .tup _, .bl _ | .tup _, .int _ | .tup _, .str _ | .tup _, .lst _ | .tup _, .ref _ => .isFalse nofun
  | .lst _, .non | .lst _, .bl _ | .lst _, .int _ | .lst _, .str _ | .lst _, .tup _ | .lst _, .ref _ => .isFalse nofun
  | .ref _, .non | .ref _, .bl _ | .ref _, .int _ | .ref _, .str _ | .ref _, .tup _ | .ref _, .lst _ => .isFalse nofun
def decDs : (a b : List D) → Decidable (a = b)
  | [], [] => .isTrue rfl
  | [], _ :: _ => .isFalse nofun
  | _ :: _, [] => .isFalse nofun
  | x :: xs, y :: ys => match decD x y, decDs xs ys with
    | .isTrue h, .isTrue k => .isTrue (by rw [h, k])
    | .isFalse h, _ => .isFalse fun e => h (by injection e)
    | _, .isFalse k => .isFalse fun e => k (by injection e)
end
instance : DecidableEq D := decD

/-- what stands in the store -/
inductive MO where
  | lst (xs : List D)
  /-- a list that is locked -/
  | frz (xs : List D)
  | dct (kvs : List (Key × D))
  | dtp (kvs : List (List Key × D))
  /-- an instance: its class's number, its attributes in the order in which they came -/
  | ins (c : Nat) (fs : List (Str × D))
  deriving DecidableEq, Inhabited
abbrev Hs := List MO
abbrev Sg := List (Option D)

inductive Res (α : Type) where
  | ok (a : α) (h : Hs)
  /-- an exception: its class's number, its own attributes -/
  | err (c : Nat) (fs : List (Str × D)) (h : Hs)
  | stuck
abbrev M (α : Type) := Hs → Res α
@[reducible] def M.pure {α : Type} (a : α) : M α := fun h => .ok a h
def M.bind {α β : Type} (m : M α) (f : α → M β) : M β := fun h => match m h with
  | .ok a h' => f a h'
  | .err c fs h' => .err c fs h'
  | .stuck => .stuck
def M.stuck {α : Type} : M α := fun _ => .stuck
def ofOpt {α : Type} (o : Option α) : M α := fun h => match o with
  | some a => .ok a h
  | none => .stuck

/-- the most items of a list, signs of a text -/
def lim : Nat := 16777216

/-! ### the small language -/
inductive Bop | add | sub | mul | fdiv | mod | pow
  deriving DecidableEq
inductive Cop | eq | ne | lt | le | gt | ge | isn | isnn | inn | nin
  deriving DecidableEq
/-- a type that isinstance is asked for -/
inductive Ity | int | bool | str | tuple | list | dict | cls (c : Nat)
  deriving DecidableEq
/-- built-in functions and types, called -/
inductive Bi | len | abs | int | str | bool | all | any | tuple | list | sorted | min2 | max2 | min1 | max1 | sum | set | dict
  deriving DecidableEq
/-- methods of built-in types -/
inductive Bm | append | extend | pop0 | pop1 | get1 | get2 | setdefault | join | lstrip | startswith | count | index
  deriving DecidableEq

mutual
inductive Ex
  | var (i : Nat)
  | con (d : D)
  /-- a module's constant -/
  | glo (x : Str) (d : D)
  | bin (o : Bop) (a b : Ex)
  | neg (a : Ex)
  | cmp (o : Cop) (a b : Ex)
  /-- a in T, a not in T, T a module's tuple -/
  | inT (a : Ex) (x : Str) (ds : List D) (neg : Bool)
  | chn (o1 o2 : Cop) (a b c : Ex)
  | and (a b : Ex) | or (a b : Ex) | not (a : Ex)
  | ite (c a b : Ex)
  | tup (es : Exs) | lst (es : Exs)
  /-- {k: v, ..}, keys and values by turns -/
  | dic (es : Exs)
  /-- {} of keys that are tuples -/
  | dic0
  | idx (a b : Ex)
  | sl (a : Ex) (lo hi : Op)
  | rev (a : Ex)
  | att (a : Ex) (f : Str)
  | call (f : Nat) (es : Exs)
  | meth (m : Str) (a : Ex) (es : Exs)
  | new (c : Nat) (es : Exs)
  | bi (b : Bi) (es : Exs)
  | bm (m : Bm) (a : Ex) (es : Exs)
  | isi (a : Ex) (ts : List Ity)
  | lc (e : Ex) (g : Gen) (own : List Nat)
  | lc2 (e : Ex) (g g2 : Gen) (own own2 : List Nat)
  | dc (k v : Ex) (g : Gen) (own : List Nat)
  /-- the value, a new list of it locked -/
  | fz (a : Ex)
inductive Exs
  | nil
  | cons (a : Ex) (r : Exs)
inductive Op
  | no
  | yes (a : Ex)
/-- what is walked -/
inductive It
  | vals (a : Ex) | valT (x : Str) (ds : List D) | rng1 (a : Ex) | rng2 (a b : Ex) | zip (a b : Ex) | enum (a : Ex) | rev (a : Ex)
/-- a clause: target, what is walked, a test or none -/
inductive Gen
  | mk (t : Tg) (i : It) (c : Op)
inductive Tg
  | name (i : Nat)
  | tup (ts : Tgs)
  | sub (a b : Ex)
  | fld (a : Ex) (f : Str)
inductive Tgs
  | nil
  | cons (t : Tg) (r : Tgs)
end
mutual
inductive Stm
  | asg (t : Tg) (e : Ex)
  /-- a, b = x, y with names -/
  | par (is : List Nat) (es : Exs)
  | aug (i : Nat) (o : Bop) (e : Ex)
  | augF (a : Ex) (f : Str) (o : Bop) (e : Ex)
  | augS (a b : Ex) (o : Bop) (e : Ex)
  | exp (e : Ex)
  | ret (e : Op)
  | ite (c : Ex) (a b : Stms)
  | whl (c : Ex) (b : Stms)
  | for_ (t : Tg) (i : It) (b : Stms)
  | brk | cont | pass
  | raise (c : Nat) (es : Exs)
  /-- try: the body; the handlers, each with its classes, a name or none, its suite -/
  | try_ (b : Stms) (hs : Hdls)
  | del (a b : Ex)
  /-- what is never reached -/
  | nev
inductive Stms
  | nil
  | cons (s : Stm) (r : Stms)
inductive Hdls
  | nil
  | cons (cs : List Nat) (x : Option Nat) (b : Stms) (r : Hdls)
end

/-! ### operations on values -/
def b2 (b : Bool) : Int := if b then 1 else 0
mutual
/-- == -/
def eqD : D → D → Bool
  | .non, .non => true
  | .bl a, .bl b => decide (a = b)
  | .int a, .int b => decide (a = b)
  | .bl a, .int b => decide (b2 a = b)
  | .int a, .bl b => decide (a = b2 b)
  | .str a, .str b => decide (a = b)
  | .tup a, .tup b => eqDs a b
  | .lst a, .lst b => eqDs a b
  | _, _ => false
def eqDs : List D → List D → Bool
  | [], [] => true
  | x :: xs, y :: ys => eqD x y && eqDs xs ys
  | _, _ => false
end
mutual
/-- may be compared: nothing in it is named by its number, its texts are texts -/
def fair : D → Bool
  | .ref _ => false
  | .str s => PySem.PyData.strOk s
  | .tup xs => fairs xs
  | .lst xs => fairs xs
  | _ => true
def fairs : List D → Bool
  | [] => true
  | x :: xs => fair x && fairs xs
end
mutual
def depD : D → Nat
  | .tup xs => depDs xs + 1
  | .lst xs => depDs xs + 1
  | _ => 0
def depDs : List D → Nat
  | [] => 0
  | x :: xs => max (depD x) (depDs xs)
end
/-- a list in the store as what it holds -/
def shown (h : Hs) : D → D
  | .ref n => match h[n]? with
    | some (.lst xs) => .lst xs
    | some (.frz xs) => .lst xs
    | _ => .ref n
  | d => d
def isFlat : D → Bool
  | .non | .bl _ | .int _ | .str _ => true
  | _ => false
/-- two scalars whose == is told at once -/
def scalD : D → D → Bool
  | .non, .non | .non, .int _ | .int _, .non | .non, .bl _ | .bl _, .non | .non, .str _ | .str _, .non => true
  | .int _, .int _ | .bl _, .bl _ | .str _, .str _ | .int _, .str _ | .str _, .int _ | .bl _, .str _ | .str _, .bl _ => true
  | _, _ => false
def eqv (h : Hs) (a b : D) : Option Bool :=
  if scalD a b then some (eqD a b)
  else
    let x := shown h a
    let y := shown h b
    if fair x && fair y && decide (depD x ≤ 64) && decide (depD y ≤ 64) then some (eqD x y) else none
/-- the items of what may be read as a sequence -/
def items (h : Hs) : D → Option (List D)
  | .tup xs => some xs
  | .lst xs => some xs
  | .ref n => match h[n]? with
    | some (.lst xs) => some xs
    | some (.frz xs) => some xs
    | _ => none
  | _ => none
def keyD : D → Option Key
  | .int i => some (.inl i)
  | .str s => some (.inr s)
  | _ => none
def keysD : List D → Option (List Key)
  | [] => some []
  | d :: ds => match keyD d, keysD ds with
    | some k, some ks => some (k :: ks)
    | _, _ => none
def dKey : Key → D
  | .inl i => .int i
  | .inr s => .str s
def truth (h : Hs) : D → Option Bool
  | .non => some false
  | .bl b => some b
  | .int i => some (i != 0)
  | .str s => if s.length ≤ lim then some ((s.length : Int) != 0) else none
  | .tup xs => some !xs.isEmpty
  | .lst xs => some !xs.isEmpty
  | .ref n => match h[n]? with
    | some (.lst xs) => some !xs.isEmpty
    | some (.frz xs) => some !xs.isEmpty
    | some (.dct kvs) => some !kvs.isEmpty
    | _ => none
def hasSign (s : Str) (z : Str) : Option Bool := match s.cps.toList with
  | [c] => some (decide (c ∈ z.cps.toList))
  | _ => none
def inD (h : Hs) (a b : D) : Option Bool := match b with
  | .str z => match a with
    | .str s => hasSign s z
    | _ => none
  | .ref n => match h[n]? with
    | some (.dct kvs) => match keyD a with
      | some k => some (kvs.any fun p => decide (p.1 = k))
      | none => none
    | some (.dtp kvs) => match a with
      | .tup ds => match keysD ds with
        | some k => some (kvs.any fun p => decide (p.1 = k))
        | none => none
      | _ => none
    | some (.lst xs) => if isFlat a && xs.all isFlat then some (xs.any fun x => eqD x a) else none
    | some (.frz xs) => if isFlat a && xs.all isFlat then some (xs.any fun x => eqD x a) else none
    | _ => none
  | .tup xs => if isFlat a && xs.all isFlat then some (xs.any fun x => eqD x a) else none
  | .lst xs => if isFlat a && xs.all isFlat then some (xs.any fun x => eqD x a) else none
  | _ => none
def cmpD (o : Cop) (h : Hs) (a b : D) : Option Bool := match o with
  | .eq => eqv h a b
  | .ne => (eqv h a b).map (!·)
  | .lt => match a, b with
    | .int i, .int j => some (decide (i < j))
    | _, _ => none
  | .le => match a, b with
    | .int i, .int j => some (decide (i ≤ j))
    | _, _ => none
  | .gt => match a, b with
    | .int i, .int j => some (decide (j < i))
    | _, _ => none
  | .ge => match a, b with
    | .int i, .int j => some (decide (j ≤ i))
    | _, _ => none
  | .isn => match b with
    | .non => some (decide (a = .non))
    | _ => none
  | .isnn => match b with
    | .non => some (!decide (a = .non))
    | _ => none
  | .inn => inD h a b
  | .nin => (inD h a b).map (!·)
/-- a dict's pairs -/
def getKD {κ : Type} [DecidableEq κ] (kvs : List (κ × D)) (k : κ) : Option D := (kvs.find? fun kv => decide (kv.1 = k)).map (·.2)
def putKD {κ : Type} [DecidableEq κ] (kvs : List (κ × D)) (k : κ) (v : D) : List (κ × D) :=
  if (kvs.any fun kv => decide (kv.1 = k)) = true then kvs.map (fun kv => if kv.1 = k then (kv.1, v) else kv) else kvs ++ [(k, v)]
def dropKD {κ : Type} [DecidableEq κ] (kvs : List (κ × D)) (k : κ) : List (κ × D) := kvs.filter fun kv => decide (kv.1 ≠ k)

/-- a value, or a new list that has no number yet -/
inductive Raw where
  | val (d : D)
  | new (xs : List D)
def toD : Raw → M D
  | .val d => M.pure d
  | .new xs => fun h => .ok (.ref h.length) (h ++ [.lst xs])
@[reducible] def V3 (m : M Raw) : M D := m.bind toD
@[reducible] def ret (d : D) : M Raw := fun h => .ok (.val d) h
@[reducible] def retN (xs : List D) : M Raw := fun h => .ok (.new xs) h
def retO (o : Option D) : M Raw := fun h => match o with
  | some d => .ok (.val d) h
  | none => .stuck
/-- a new object -/
def alloc (o : MO) : M Raw := fun h => .ok (.val (.ref h.length)) (h ++ [o])
/-- a list (of either kind) -/
def asList (h : Hs) : D → Option (List D)
  | .lst xs => some xs
  | .ref n => match h[n]? with
    | some (.lst xs) => some xs
    | some (.frz xs) => some xs
    | _ => none
  | _ => none
def binD (o : Bop) (a b : D) : M Raw := fun h => match o with
  | .add => match a, b with
    | .int i, .int j => .ok (.val (.int (i + j))) h
    | .str s, .str t => if s.length + t.length ≤ lim then .ok (.val (.str (s ++ t))) h else .stuck
    | .tup xs, .tup ys => if xs.length + ys.length ≤ lim then .ok (.val (.tup (xs ++ ys))) h else .stuck
    | x, y => match asList h x, asList h y with
      | some xs, some ys => if xs.length + ys.length ≤ lim then .ok (.new (xs ++ ys)) h else .stuck
      | _, _ => .stuck
  | .sub => match a, b with
    | .int i, .int j => .ok (.val (.int (i - j))) h
    | _, _ => .stuck
  | .mul => match a, b with
    | .int i, .int j => if i.natAbs < 2 ^ 64 ∨ j.natAbs < 2 ^ 64 then .ok (.val (.int (i * j))) h else .stuck
    | x, .int k => match asList h x with
      | some xs => if k.natAbs < 2 ^ 62 ∧ xs.length * k.toNat ≤ lim then .ok (.new (List.replicate k.toNat xs).flatten) h else .stuck
      | none => .stuck
    | _, _ => .stuck
  | .fdiv => match a, b with
    | .int i, .int j => if 0 < j ∧ j < 1073741824 then .ok (.val (.int (i / j))) h else .stuck
    | _, _ => .stuck
  | .mod => match a, b with
    | .int i, .int j => if 0 < j then .ok (.val (.int (i % j))) h else .stuck
    | _, _ => .stuck
  | .pow => match a, b with
    | .int i, .int j => if 0 ≤ j ∧ j ≤ 1000 ∧ i.natAbs < 2 ^ 64 then .ok (.val (.int (i ^ j.toNat))) h else .stuck
    | _, _ => .stuck
/-- a op= b: whole numbers; texts -/
def augD (o : Bop) (a b : D) : M D := fun h => match o with
  | .add => match a, b with
    | .int i, .int j => .ok (.int (i + j)) h
    | .str s, .str t => if s.length + t.length ≤ lim then .ok (.str (s ++ t)) h else .stuck
    | _, _ => .stuck
  | .sub => match a, b with
    | .int i, .int j => .ok (.int (i - j)) h
    | _, _ => .stuck
  | _ => .stuck
/-- an item by its place -/
def atD (xs : List D) (e : D) : M Raw := fun h => match e with
  | .int i => retO (atI xs i) h
  | _ => .stuck
/-- xs[i], d[k] -/
def idxD (a b : D) : M Raw := fun h => match a with
  | .str z => match b with
    | .int i => if z.length ≤ lim then retO ((atI z.cps.toList i).map fun c => .str ⟨#[c]⟩) h else .stuck
    | _ => .stuck
  | .tup xs => atD xs b h
  | .lst xs => atD xs b h
  | .ref n => match h[n]? with
    | some (.lst xs) => atD xs b h
    | some (.frz xs) => atD xs b h
    | some (.dct kvs) => match keyD b with
      | some k => retO (getKD kvs k) h
      | none => .stuck
    | some (.dtp kvs) => match b with
      | .tup ds => match keysD ds with
        | some k => retO (getKD kvs k) h
        | none => .stuck
      | _ => .stuck
    | _ => .stuck
  | _ => .stuck
def cutD (xs : List D) (lo hi : Option Int) : List D := (xs.drop (HT.sIx xs.length 0 lo)).take (HT.sIx xs.length xs.length hi - HT.sIx xs.length 0 lo)
def slD (a : D) (lo hi : Option Int) : M Raw := fun h => match a with
  | .tup xs => .ok (.val (.tup (cutD xs lo hi))) h
  | .str z => if z.length ≤ lim then .ok (.val (.str (cutS z lo hi))) h else .stuck
  | x => match asList h x with
    | some xs => .ok (.new (cutD xs lo hi)) h
    | none => .stuck
/-- a list's lock -/
def fzD (d : D) : M D := fun h => match d with
  | .ref n => match h[n]? with
    | some (.lst xs) => .ok (.lst xs) (h.set n (.frz xs))
    | some (.frz xs) => .ok (.lst xs) h
    | _ => .ok d h
  | d => .ok d h
def setD (a b v : D) : M Unit := fun h => match a with
  | .ref n => match h[n]? with
    | some (.lst xs) => match b with
      | .int i => match ixN xs.length i with
        | some j => .ok () (h.set n (.lst (xs.set j v)))
        | none => .stuck
      | _ => .stuck
    | some (.dct kvs) => match keyD b with
      | some k => if kvs.length < lim then .ok () (h.set n (.dct (putKD kvs k v))) else .stuck
      | none => .stuck
    | some (.dtp kvs) => match b with
      | .tup ds => match keysD ds with
        | some k => if kvs.length < lim then .ok () (h.set n (.dtp (putKD kvs k v))) else .stuck
        | none => .stuck
      | _ => .stuck
    | _ => .stuck
  | _ => .stuck
/-- an attribute put: at its place, a new one at the end -/
def putFD (f : Str) (v : D) : List (Str × D) → List (Str × D)
  | [] => [(f, v)]
  | (g, w) :: r => if g = f then (g, v) :: r else (g, w) :: putFD f v r
def fldD (at_ : Nat → Str → Bool) (a : D) (f : Str) (v : D) : M Unit := fun h => match a with
  | .ref n => match h[n]? with
    | some (.ins c fs) => if fs.length < 1000 ∧ at_ c f = true then .ok () (h.set n (.ins c (putFD f v fs))) else .stuck
    | _ => .stuck
  | _ => .stuck
def attD (at_ : Nat → Str → Bool) (a : D) (f : Str) : M Raw := fun h => match a with
  | .ref n => match h[n]? with
    | some (.ins c fs) => if at_ c f = true then retO (fs.lookup f) h else .stuck
    | _ => .stuck
  | _ => .stuck
/-- an instance's class -/
def clsM (a : D) : M Nat := fun h => match a with
  | .ref n => match h[n]? with
    | some (.ins c _) => .ok c h
    | _ => .stuck
  | _ => .stuck
def intsD : List D → Option (List Int)
  | [] => some []
  | .int i :: ds => (intsD ds).map (i :: ·)
  | _ :: _ => none
def boolsD : List D → Option (List Bool)
  | [] => some []
  | .bl i :: ds => (boolsD ds).map (i :: ·)
  | _ :: _ => none
def strsD : List D → Option (List Str)
  | [] => some []
  | .str i :: ds => (strsD ds).map (i :: ·)
  | _ :: _ => none
/-- the keys of a dict, in order -/
def lenD (h : Hs) : D → Option Nat
  | .str s => if s.length ≤ lim then some s.length else none
  | .tup xs => some xs.length
  | .lst xs => some xs.length
  | .ref n => match h[n]? with
    | some (.lst xs) => some xs.length
    | some (.frz xs) => some xs.length
    | some (.dct kvs) => some kvs.length
    | _ => none
  | _ => none
def sortI (ns : List Int) : List Int := ns.mergeSort fun a b => decide (a ≤ b)
def intKs : List (Key × D) → Option (List Int)
  | [] => some []
  | (.inl i, _) :: r => (intKs r).map (i :: ·)
  | _ => none
/-- the keys of a dict, all whole numbers -/
def keysI (h : Hs) : D → Option (List Int)
  | .ref n => match h[n]? with
    | some (.dct kvs) => intKs kvs
    | _ => none
  | _ => none
def leastI : List Int → Option Int
  | [] => none
  | n :: ns => some (ns.foldl min n)
def greatestI : List Int → Option Int
  | [] => none
  | n :: ns => some (ns.foldl max n)
def biD (b : Bi) (ds : List D) : M Raw := fun h => match b with
  | .len => match ds with
    | [d] => match lenD h d with
      | some n => .ok (.val (.int (n : Int))) h
      | none => .stuck
    | _ => .stuck
  | .abs => match ds with
    | [.int i] => .ok (.val (.int (i.natAbs : Int))) h
    | _ => .stuck
  | .int => match ds with
    | [.int i] => .ok (.val (.int i)) h
    | [.bl c] => .ok (.val (.int (b2 c))) h
    | _ => .stuck
  | .bool => match ds with
    | [d] => match truth h d with
      | some c => .ok (.val (.bl c)) h
      | none => .stuck
    | _ => .stuck
  | .all => match ds with
    | [d] => match (asList h d).bind boolsD with
      | some bs => .ok (.val (.bl (bs.all id))) h
      | none => .stuck
    | _ => .stuck
  | .any => match ds with
    | [d] => match (asList h d).bind boolsD with
      | some bs => .ok (.val (.bl (bs.any id))) h
      | none => .stuck
    | _ => .stuck
  | .tuple => match ds with
    | [d] => match items h d with
      | some xs => .ok (.val (.tup xs)) h
      | none => .stuck
    | _ => .stuck
  | .list => match ds with
    | [d] => match items h d with
      | some xs => .ok (.new xs) h
      | none => .stuck
    | _ => .stuck
  | .sorted => match ds with
    | [d] => match (asList h d).bind intsD with
      | some ns => .ok (.new ((sortI ns).map D.int)) h
      | none => match keysI h d with
        | some ns => if ns.length < 64 then .ok (.new ((sortI ns).map D.int)) h else .stuck
        | none => .stuck
    | _ => .stuck
  | .min2 => match ds with
    | [.int i, .int j] => .ok (.val (.int (min i j))) h
    | _ => .stuck
  | .max2 => match ds with
    | [.int i, .int j] => .ok (.val (.int (max i j))) h
    | _ => .stuck
  | .min1 => match ds with
    | [d] => match (asList h d).bind intsD with
      | some ns => retO ((leastI ns).map D.int) h
      | none => .stuck
    | _ => .stuck
  | .max1 => match ds with
    | [d] => match (asList h d).bind intsD with
      | some ns => retO ((greatestI ns).map D.int) h
      | none => .stuck
    | _ => .stuck
  | .sum => match ds with
    | [d] => match (asList h d).bind intsD with
      | some ns => .ok (.val (.int ns.sum)) h
      | none => .stuck
    | _ => .stuck
  | .dict => match ds with
    | [.ref n] => match h[n]? with
      | some (.dct kvs) => .ok (.val (.ref h.length)) (h ++ [.dct kvs])
      | _ => .stuck
    | _ => .stuck
  | .str => match ds with
    | [.int i] => if i.natAbs.log2 < 1920 then .ok (.val (.str (Str.ofString (toString i)))) h else .stuck
    | [.str z] => .ok (.val (.str z)) h
    | _ => .stuck
  | .set => .stuck
def bmD (m : Bm) (a : D) (ds : List D) : M Raw := fun h => match a with
  | .ref n => match h[n]? with
    | some (.lst xs) => match m with
      | .append => match ds with
        | [v] => if xs.length < lim then .ok (.val .non) (h.set n (.lst (xs ++ [v]))) else .stuck
        | _ => .stuck
      | .extend => match ds with
        | [v] => match asList h v with
          | some ys => if xs.length + ys.length ≤ lim then .ok (.val .non) (h.set n (.lst (xs ++ ys))) else .stuck
          | none => .stuck
        | _ => .stuck
      | .pop0 => match ds with
        | [] => match xs[xs.length - 1]? with
          | some v => .ok (.val v) (h.set n (.lst xs.dropLast))
          | none => .stuck
        | _ => .stuck
      | .pop1 => match ds with
        | [.int i] => if 0 ≤ i then match xs[i.toNat]? with
          | some v => .ok (.val v) (h.set n (.lst (xs.eraseIdx i.toNat)))
          | none => .stuck
          else .stuck
        | _ => .stuck
      | _ => .stuck
    | some (.dct kvs) => match m with
      | .get1 => match ds with
        | [k] => match keyD k with
          | some k => .ok (.val ((getKD kvs k).getD .non)) h
          | none => .stuck
        | _ => .stuck
      | .get2 => match ds with
        | [k, v] => match keyD k with
          | some k => .ok (.val ((getKD kvs k).getD v)) h
          | none => .stuck
        | _ => .stuck
      | .setdefault => match ds with
        | [k, v] => match keyD k with
          | some k => if kvs.length < lim then match getKD kvs k with
              | some w => .ok (.val w) h
              | none => .ok (.val v) (h.set n (.dct (putKD kvs k v)))
            else .stuck
          | none => .stuck
        | _ => .stuck
      | _ => .stuck
    | some (.dtp kvs) => match m with
      | .get1 => match ds with
        | [.tup k] => match keysD k with
          | some k => .ok (.val ((getKD kvs k).getD .non)) h
          | none => .stuck
        | _ => .stuck
      | .get2 => match ds with
        | [.tup k, v] => match keysD k with
          | some k => .ok (.val ((getKD kvs k).getD v)) h
          | none => .stuck
        | _ => .stuck
      | _ => .stuck
    | _ => .stuck
  | _ => .stuck

/-! ### the evaluator -/
structure Par where
  call : Nat → List D → M D
  meth : Nat → Str → Option Nat
  init : Nat → Option Nat
  isa : Nat → Nat → Bool
  /-- the attributes that the instances of a class may have -/
  attr : Nat → Str → Bool
  wf : Nat
/-- the type of a value; of an instance: none -/
def kindD (h : Hs) : D → Option Str
  | .non => some "NoneType"
  | .bl _ => some "bool"
  | .int _ => some "int"
  | .str _ => some "str"
  | .tup _ => some "tuple"
  | .lst _ => some "list"
  | .ref n => match h[n]? with
    | some (.lst _) | some (.frz _) => some "list"
    | some (.dct _) | some (.dtp _) => some "dict"
    | _ => none
def ityN : Ity → Str
  | .int => "int"
  | .bool => "bool"
  | .str => "str"
  | .tuple => "tuple"
  | .list => "list"
  | .dict => "dict"
  | .cls _ => ""
/-- the type k's values are of type t -/
def isTy (k : Str) (t : Ity) : Bool := decide (k = ityN t) || (decide (k = "bool") && decide (t = .int))
def isiM (x : D) (ts : List Ity) : M Raw := fun h => match kindD h x with
  | some k => .ok (.val (.bl (ts.any fun t => isTy k t))) h
  | none => .stuck
/-- what holds while something is walked -/
abbrev Grd := List (Nat × MO)
def grdOk (h : Hs) (g : Grd) : Bool := g.all fun p => decide (h[p.1]? = some p.2)
def seqG (h : Hs) (d : D) : Option (List D × Grd) := match d with
  | .tup xs => some (xs, [])
  | .lst xs => some (xs, [])
  | .ref n => match h[n]? with
    | some (.lst xs) => some (xs, [(n, .lst xs)])
    | some (.frz xs) => some (xs, [])
    | _ => none
  | _ => none
def walkG (h : Hs) (d : D) : Option (List D × Grd) := match d with
  | .str s => if s.length ≤ lim then some (s.cps.toList.map fun c => .str ⟨#[c]⟩, []) else none
  | d => seqG h d
def isTupD : D → Bool
  | .tup _ => true
  | _ => false
def rngD (a b : Int) : List D := (List.range (b - a).toNat).map fun k => .int (a + (k : Nat))
def zipD : List D → List D → List D
  | x :: xs, y :: ys => .tup [x, y] :: zipD xs ys
  | _, _ => []
def enumD : Nat → List D → List D
  | _, [] => []
  | k, x :: xs => .tup [.int (k : Nat), x] :: enumD (k + 1) xs
inductive Out where
  | nx (σ : Sg) | rt (d : D) | bk (σ : Sg) | ct (σ : Sg)
  /-- an exception: its class's number, its attributes, the slots -/
  | er (c : Nat) (fs : List (Str × D)) (σ : Sg)
/-- an expression in a statement: what it raises is raised at these slots -/
def lift {α : Type} (σ : Sg) (m : M α) (k : α → M Out) : M Out := fun h => match m h with
  | .ok a h' => k a h'
  | .err c fs h' => .ok (.er c fs σ) h'
  | .stuck => .stuck
/-- .. where nothing may be raised -/
def calm {α β : Type} (m : M α) (k : α → M β) : M β := fun h => match m h with
  | .ok a h' => k a h'
  | _ => .stuck
def loopI (body : D → Sg → M Out) (g : Grd) : List D → Sg → M Out
  | [], σ => fun h => .ok (.nx σ) h
  | x :: xs, σ => fun h => match body x σ h with
    | .ok (.nx σ') h' => if grdOk h' g then loopI body g xs σ' h' else .stuck
    | .ok (.ct σ') h' => if grdOk h' g then loopI body g xs σ' h' else .stuck
    | .ok (.bk σ') h' => .ok (.nx σ') h'
    | .ok o h' => .ok o h'
    | .err _ _ _ => .stuck
    | .stuck => .stuck
def whileI (c : Sg → M Bool) (body : Sg → M Out) : Nat → Sg → M Out
  | 0, _ => M.stuck
  | k + 1, σ => lift σ (c σ) fun b => if b then fun h => match body σ h with
      | .ok (.nx σ') h' => whileI c body k σ' h'
      | .ok (.ct σ') h' => whileI c body k σ' h'
      | .ok (.bk σ') h' => .ok (.nx σ') h'
      | .ok o h' => .ok o h'
      | .err _ _ _ => .stuck
      | .stuck => .stuck
    else fun h => .ok (.nx σ) h
/-- a comprehension's items, by the turn's answer: nothing or an item -/
def compI (turn : D → M (Option D)) (g : Grd) : List D → List D → M (List D)
  | [], acc => fun h => .ok acc h
  | x :: xs, acc => fun h => match turn x h with
    | .ok none h' => if grdOk h' g then compI turn g xs acc h' else .stuck
    | .ok (some y) h' => if grdOk h' g ∧ acc.length < lim then compI turn g xs (acc ++ [y]) h' else .stuck
    | _ => .stuck
/-- .. of several items a turn -/
def compsI (turn : D → List D → M (List D)) (g : Grd) : List D → List D → M (List D)
  | [], acc => fun h => .ok acc h
  | x :: xs, acc => fun h => match turn x acc h with
    | .ok acc' h' => if grdOk h' g then compsI turn g xs acc' h' else .stuck
    | _ => .stuck
def compK (turn : D → M (Option (D × D))) (g : Grd) : List D → List (Key × D) → M (List (Key × D))
  | [], acc => fun h => .ok acc h
  | x :: xs, acc => fun h => match turn x h with
    | .ok none h' => if grdOk h' g then compK turn g xs acc h' else .stuck
    | .ok (some (k, v)) h' => match keyD k with
      | some k => if grdOk h' g ∧ acc.length < lim then compK turn g xs (putKD acc k v) h' else .stuck
      | none => .stuck
    | _ => .stuck
def wipeD (σ : Sg) : List Nat → Sg
  | [] => σ
  | v :: vs => (wipeD σ vs).set v none
/-- the receiver of a built-in type's method -/
def tyM (m : Bm) (d : D) : M Unit := fun h => match m with
  | .append | .extend | .pop0 | .pop1 | .count | .index => match d with
    | .lst _ => .ok () h
    | .ref n => match h[n]? with
      | some (.lst _) => .ok () h
      | some (.frz _) => .ok () h
      | _ => .stuck
    | _ => .stuck
  | .get1 | .get2 | .setdefault => match d with
    | .ref n => match h[n]? with
      | some (.dct _) => .ok () h
      | some (.dtp _) => .ok () h
      | _ => .stuck
    | _ => .stuck
  | .join | .lstrip | .startswith => match d with
    | .str _ => .ok () h
    | _ => .stuck
def truM (d : D) : M Bool := fun h => match truth h d with
  | some b => .ok b h
  | none => .stuck
def varD (σ : Sg) (i : Nat) : M Raw := fun h => match σ[i]? with
  | some (some d) => .ok (.val d) h
  | _ => .stuck
def seqM (d : D) : M (List D × Grd) := fun h => match seqG h d with
  | some r => .ok r h
  | none => .stuck
def walkM (d : D) : M (List D × Grd) := fun h => match walkG h d with
  | some r => .ok r h
  | none => .stuck
def intM : D → M Int
  | .int i => M.pure i
  | _ => M.stuck
def cmpM (o : Cop) (a b : D) : M Raw := fun h => match cmpD o h a b with
  | some r => .ok (.val (.bl r)) h
  | none => .stuck
/-- the receiver's own look: an instance that has no attribute of that name; its method's number -/
def recvM (P : Par) (m : Str) (a : D) : M Nat := fun h => match a with
  | .ref n => match h[n]? with
    | some (.ins c fs) => match fs.lookup m with
      | none => match P.meth c m with
        | some i => .ok i h
        | none => .stuck
      | some _ => .stuck
    | _ => .stuck
  | _ => .stuck
def newM (P : Par) (c : Nat) (ds : List D) : M Raw := fun h => match P.init c with
  | some i => match P.call i (.ref h.length :: ds) (h ++ [.ins c []]) with
    | .ok .non h' => .ok (.val (.ref h.length)) h'
    | .err c fs h' => .err c fs h'
    | _ => .stuck
  | none => .stuck
def dictM : List D → List (Key × D) → M Raw
  | [], acc => alloc (.dct acc)
  | [_], _ => M.stuck
  | k :: v :: r, acc => match keyD k with
    | some k => dictM r (putKD acc k v)
    | none => M.stuck
def putN (i : Nat) (d : D) (σ : Sg) : M Sg := fun h => .ok (σ.set i (some d)) h
/-- the answer True -/
def rawT : Raw → Bool
  | .val (.bl b) => b
  | _ => false
def tgsN : Tgs → Nat
  | .nil => 0
  | .cons _ r => tgsN r + 1
mutual
def ev (P : Par) : Ex → Sg → M Raw
  | .var i, σ => varD σ i
  | .con d, _ => ret d
  | .glo _ d, _ => ret d
  | .bin o a b, σ => (V3 (ev P a σ)).bind fun x => (V3 (ev P b σ)).bind fun y => binD o x y
  | .neg a, σ => (V3 (ev P a σ)).bind fun x => match x with
    | .int i => ret (.int (-i))
    | _ => M.stuck
  | .cmp o a b, σ => (V3 (ev P a σ)).bind fun x => (V3 (ev P b σ)).bind fun y => cmpM o x y
  | .inT a _ ds neg, σ => (V3 (ev P a σ)).bind fun x => if isFlat x && ds.all isFlat then ret (.bl (if neg then !(ds.any fun y => eqD y x) else ds.any fun y => eqD y x)) else M.stuck
  | .chn o1 o2 a b c, σ => (V3 (ev P a σ)).bind fun x => (V3 (ev P b σ)).bind fun y => (cmpM o1 x y).bind fun r => if rawT r then (V3 (ev P c σ)).bind fun z => cmpM o2 y z else ret (.bl false)
  | .and a b, σ => (V3 (ev P a σ)).bind fun x => (truM x).bind fun c => if c then (V3 (ev P b σ)).bind ret else ret x
  | .or a b, σ => (V3 (ev P a σ)).bind fun x => (truM x).bind fun c => if c then ret x else (V3 (ev P b σ)).bind ret
  | .not a, σ => (V3 (ev P a σ)).bind fun x => (truM x).bind fun c => ret (.bl (!c))
  | .ite c a b, σ => ((V3 (ev P c σ)).bind truM).bind fun c => if c then (V3 (ev P a σ)).bind ret else (V3 (ev P b σ)).bind ret
  | .tup es, σ => (evs P es σ).bind fun xs => if xs.length ≤ lim then ret (.tup xs) else M.stuck
  | .lst es, σ => (evs P es σ).bind fun xs => if xs.length ≤ lim then retN xs else M.stuck
  | .dic es, σ => (evs P es σ).bind fun xs => if xs.length ≤ 30 then dictM xs [] else M.stuck
  | .dic0, _ => alloc (.dtp [])
  | .idx a b, σ => (V3 (ev P a σ)).bind fun x => (V3 (ev P b σ)).bind fun y => idxD x y
  | .sl a lo hi, σ => (V3 (ev P a σ)).bind fun x => (evo P lo σ).bind fun l => (evo P hi σ).bind fun u => slD x l u
  | .rev a, σ => (V3 (ev P a σ)).bind fun x => fun h => match x with
    | .tup xs => .ok (.val (.tup xs.reverse)) h
    | x => match asList h x with
      | some xs => .ok (.new xs.reverse) h
      | none => .stuck
  | .att a f, σ => (V3 (ev P a σ)).bind fun x => attD P.attr x f
  | .call f es, σ => (evs P es σ).bind fun xs => (P.call f xs).bind ret
  | .meth m a es, σ => (V3 (ev P a σ)).bind fun x => (recvM P m x).bind fun i => (evs P es σ).bind fun xs => (P.call i (x :: xs)).bind ret
  | .new c es, σ => (evs P es σ).bind fun xs => newM P c xs
  | .bi b es, σ => (evs P es σ).bind fun xs => biD b xs
  | .bm m a es, σ => (V3 (ev P a σ)).bind fun x => (tyM m x).bind fun _ => (evs P es σ).bind fun xs => bmD m x xs
  | .isi a ts, σ => (V3 (ev P a σ)).bind fun x => isiM x ts
  | .lc e (.mk t i c) own, σ => (evi P i σ).bind fun r => (compI (fun x => (asg P t x (wipeD σ own)).bind fun σ2 => (evt P c σ2).bind fun b =>
      if b then (V3 (ev P e σ2)).bind fun y => M.pure (some y) else M.pure none) r.2 r.1 []).bind retN
  | .lc2 e (.mk t i c) (.mk t2 i2 c2) own own2, σ => (evi P i σ).bind fun r => (compsI (fun x acc => (asg P t x (wipeD σ own)).bind fun σ2 => (evt P c σ2).bind fun b =>
      if b then (evi P i2 σ2).bind fun r2 => compI (fun x2 => (asg P t2 x2 (wipeD σ2 own2)).bind fun σ3 => (evt P c2 σ3).bind fun b2 =>
        if b2 then (V3 (ev P e σ3)).bind fun y => M.pure (some y) else M.pure none) r2.2 r2.1 acc else M.pure acc) r.2 r.1 []).bind retN
  | .dc k v (.mk t i c) own, σ => (evi P i σ).bind fun r => (compK (fun x => (asg P t x (wipeD σ own)).bind fun σ2 => (evt P c σ2).bind fun b =>
      if b then ((V3 (ev P k σ2)).bind fun a => (V3 (ev P v σ2)).bind fun b => M.pure (a, b)).bind fun y => M.pure (some y) else M.pure none) r.2 r.1 []).bind fun kvs => alloc (.dct kvs)
  | .fz a, σ => (ev P a σ).bind fun r => match r with
    | .new xs => ret (.lst xs)
    | .val d => (fzD d).bind ret
def evs (P : Par) : Exs → Sg → M (List D)
  | .nil, _ => M.pure []
  | .cons a r, σ => (V3 (ev P a σ)).bind fun x => (evs P r σ).bind fun xs => M.pure (x :: xs)
/-- a part of a slice -/
def evo (P : Par) : Op → Sg → M (Option Int)
  | .no, _ => M.pure none
  | .yes a, σ => (V3 (ev P a σ)).bind fun x => (intM x).bind fun i => M.pure (some i)
/-- a clause's test -/
def evt (P : Par) : Op → Sg → M Bool
  | .no, _ => M.pure true
  | .yes a, σ => (V3 (ev P a σ)).bind truM
def evi (P : Par) : It → Sg → M (List D × Grd)
  | .vals a, σ => (V3 (ev P a σ)).bind walkM
  | .valT _ ds, _ => M.pure (ds, [])
  | .rng1 a, σ => (V3 (ev P a σ)).bind fun x => (intM x).bind fun i => if i.natAbs < 2 ^ 61 then M.pure (rngD 0 i, []) else M.stuck
  | .rng2 a b, σ => (V3 (ev P a σ)).bind fun x => (V3 (ev P b σ)).bind fun y => (intM x).bind fun i => (intM y).bind fun j => if i.natAbs < 2 ^ 61 ∧ j.natAbs < 2 ^ 61 then M.pure (rngD i j, []) else M.stuck
  | .zip a b, σ => (V3 (ev P a σ)).bind fun x => (V3 (ev P b σ)).bind fun y => (seqM x).bind fun r => (seqM y).bind fun q => if isTupD x = isTupD y then M.pure (zipD r.1 q.1, r.2 ++ q.2) else M.stuck
  | .enum a, σ => (V3 (ev P a σ)).bind fun x => (seqM x).bind fun r => if isTupD x then M.stuck else M.pure (enumD 0 r.1, r.2)
  | .rev a, σ => (V3 (ev P a σ)).bind fun x => (seqM x).bind fun r => M.pure (r.1.reverse, r.2)
def asg (P : Par) : Tg → D → Sg → M Sg
  | .name i, d, σ => putN i d σ
  | .tup ts, d, σ => match d with
    | .tup xs => if xs.length = tgsN ts then asgs P ts xs σ else M.stuck
    | _ => M.stuck
  | .sub a b, d, σ => (V3 (ev P a σ)).bind fun x => (V3 (ev P b σ)).bind fun y => (setD x y d).bind fun _ => M.pure σ
  | .fld a f, d, σ => (V3 (ev P a σ)).bind fun x => (fldD P.attr x f d).bind fun _ => M.pure σ
def asgs (P : Par) : Tgs → List D → Sg → M Sg
  | .nil, [], σ => M.pure σ
  | .cons t r, x :: xs, σ => (asg P t x σ).bind fun σ2 => asgs P r xs σ2
  | _, _, _ => M.stuck
end
def setsN : List Nat → List D → Sg → Sg
  | i :: is, d :: ds, σ => setsN is ds (σ.set i (some d))
  | _, _, σ => σ
mutual
def ex (P : Par) : Stm → Sg → M Out
  | .asg t e, σ => lift σ (V3 (ev P e σ)) fun d => calm (asg P t d σ) fun σ2 => M.pure (.nx σ2)
  | .par is es, σ => lift σ (evs P es σ) fun ds => if ds.length = is.length then M.pure (.nx (setsN is ds σ)) else M.stuck
  | .aug i o e, σ => lift σ (V3 (varD σ i)) fun x => lift σ (V3 (ev P e σ)) fun y => calm (augD o x y) fun z => M.pure (.nx (σ.set i (some z)))
  | .augF a f o e, σ => lift σ (V3 (ev P a σ)) fun x => calm (clsM x) fun c => calm (V3 (attD P.attr x f)) fun u => lift σ (V3 (ev P e σ)) fun y => calm (augD o u y) fun z => calm (clsM x) fun c2 => if c2 = c then calm (fldD P.attr x f z) fun _ => M.pure (.nx σ) else M.stuck
  | .augS a b o e, σ => lift σ (V3 (ev P a σ)) fun x => lift σ (V3 (ev P b σ)) fun k => calm (V3 (idxD x k)) fun u => lift σ (V3 (ev P e σ)) fun y => calm (augD o u y) fun z => calm (setD x k z) fun _ => M.pure (.nx σ)
  | .exp e, σ => lift σ (V3 (ev P e σ)) fun _ => M.pure (.nx σ)
  | .ret .no, _ => M.pure (.rt .non)
  | .ret (.yes e), σ => lift σ (V3 (ev P e σ)) fun d => M.pure (.rt d)
  | .ite c a b, σ => lift σ ((V3 (ev P c σ)).bind truM) fun t => if t then exs P a σ else exs P b σ
  | .whl c b, σ => whileI (fun σ => (V3 (ev P c σ)).bind truM) (fun σ => exs P b σ) P.wf σ
  | .for_ t i b, σ => lift σ (evi P i σ) fun r => loopI (fun x σ => calm (asg P t x σ) fun σ2 => exs P b σ2) r.2 r.1 σ
  | .brk, σ => M.pure (.bk σ)
  | .cont, σ => M.pure (.ct σ)
  | .pass, σ => M.pure (.nx σ)
  | .raise c es, σ => lift σ (evs P es σ) fun ds => if ds.length ≤ lim then M.pure (.er c [] σ) else M.stuck
  | .try_ b hs, σ => (exs P b σ).bind fun o => match o with
    | .er c fs σ2 => exh P hs c fs σ2
    | o => M.pure o
  | .del _ _, _ => M.stuck
  | .nev, _ => M.stuck
def exs (P : Par) : Stms → Sg → M Out
  | .nil, σ => M.pure (.nx σ)
  | .cons s r, σ => (ex P s σ).bind fun o => match o with
    | .nx σ2 => exs P r σ2
    | o => M.pure o
def exh (P : Par) : Hdls → Nat → List (Str × D) → Sg → M Out
  | .nil, c, fs, σ => M.pure (.er c fs σ)
  | .cons cs _ b r, c, fs, σ => if cs.any fun k => P.isa c k then exs P b σ else exh P r c fs σ
end
mutual
def noRef (n : Nat) : D → Bool
  | .ref m => decide (m < n)
  | .tup xs => noRefs n xs
  | .lst xs => noRefs n xs
  | _ => true
def noRefs (n : Nat) : List D → Bool
  | [] => true
  | x :: xs => noRef n x && noRefs n xs
end
def noRefO (n : Nat) : MO → Bool
  | .lst xs => noRefs n xs
  | .frz xs => noRefs n xs
  | .dct kvs => kvs.all fun p => noRef n p.2
  | .dtp kvs => kvs.all fun p => noRef n p.2
  | .ins _ fs => fs.all fun p => noRef n p.2
/-- what was made since h may be forgotten -/
def okDrop (h h' : Hs) : Bool := decide (h.length ≤ h'.length) && (List.range h.length).all fun i => decide (h'[i]? = h[i]?) || match h'[i]? with
  | some o => noRefO h.length o
  | none => false
structure Fn where
  /-- slots, parameters among them -/
  n : Nat
  np : Nat
  body : Stms
  /-- what was made in it is forgotten behind it -/
  drop : Bool
def startD (n : Nat) (ds : List D) : Sg := ds.map some ++ List.replicate (n - ds.length) none
def finish (drop : Bool) (h : Hs) : Res Out → Res D
  | .ok (.nx _) h' => fin .non h'
  | .ok (.rt d) h' => fin d h'
  | .ok (.er c fs _) h' => if drop then if okDrop h h' && fs.all fun p => noRef h.length p.2 then .err c fs (h'.take h.length) else .stuck else .err c fs h'
  | _ => .stuck
where fin (d : D) (h' : Hs) : Res D := if drop then if okDrop h h' && noRef h.length d then .ok d (h'.take h.length) else .stuck else .ok d h'
structure Prog where
  fns : List Fn
  meth : Nat → Str → Option Nat
  init : Nat → Option Nat
  isa : Nat → Nat → Bool
  attr : Nat → Str → Bool
  wf : Nat
def callI (T : Prog) : Nat → Nat → List D → M D
  | 0, _, _ => M.stuck
  | k + 1, i, ds => fun h => match T.fns[i]? with
    | some f => if ds.length = f.np then finish f.drop h (exs ⟨callI T k, T.meth, T.init, T.isa, T.attr, T.wf⟩ f.body (startD f.n ds) h) else .stuck
    | none => .stuck
end PX

/-! PXb: what ties the data and the store to the layer's values and heap. -/
namespace PX
open PySem L2
abbrev Fr := PySem.W.Frag

/-- a locked list, or one of the module -/
def LkK (K : Fr) (a : Addr) (xs : List V) : Prop := ∃ (its : List Value) (n : Nat), K.lookup a = some { cls := .type "list", data := .seq its.toArray n } ∧ its.length ≤ sizeLine ∧ Vals xs its
def SqF (K : Fr) (H : Hp) (a : Addr) (xs : List V) : Prop := (∃ o, H a = some (.frz o (.lst xs))) ∨ LkK K a xs
/-- a list that is a plain object: tracked, locked, or of the module -/
def Lk (K : Fr) (H : Hp) (a : Addr) (xs : List V) : Prop := Rd H a (.lst xs) ∨ LkK K a xs
theorem Lk.l {K : Fr} {H : Hp} {a : Addr} {xs : List V} (h : Lk K H a xs) : SqL K H a xs := by
  rcases h with h | ⟨its, n, e, z, r⟩
  · exact .inl h
  · exact .inr ⟨_, its.toArray, n, e, rfl, rfl, rfl, by rw [List.size_toArray]; exact z, r⟩
theorem SqF.r {K : Fr} {H : Hp} {a : Addr} {xs : List V} (h : SqF K H a xs) : Lk K H a xs := by
  rcases h with h | h
  · exact .inl (.inr h)
  · exact .inr h
theorem SqF.l {K : Fr} {H : Hp} {a : Addr} {xs : List V} (h : SqF K H a xs) : SqL K H a xs := h.r.l
mutual
inductive RV (K : Fr) (u : List Addr) (H : Hp) : D → V → Prop
  | non : RV K u H .non .non
  | bl (b : Bool) : RV K u H (.bl b) (.bl b)
  | int (i : Int) : RV K u H (.int i) (.int i)
  | str (s : Str) : RV K u H (.str s) (.str s)
  | tup {a : Addr} {vs : List V} {ds : List D} : H a = some (.tup vs) → RVs K u H ds vs → RV K u H (.tup ds) (.ref a)
  | lst {a : Addr} {vs : List V} {ds : List D} : SqF K H a vs → RVs K u H ds vs → RV K u H (.lst ds) (.ref a)
  | ref {n : Nat} {a : Addr} : u[n]? = some a → RV K u H (.ref n) (.ref a)
inductive RVs (K : Fr) (u : List Addr) (H : Hp) : List D → List V → Prop
  | nil : RVs K u H [] []
  | cons {d : D} {ds : List D} {v : V} {vs : List V} : RV K u H d v → RVs K u H ds vs → RVs K u H (d :: ds) (v :: vs)
end
/-- the later state: more is named, tuples and locked things stand, what has no number stands -/
structure Later (u : List Addr) (H : Hp) (u' : List Addr) (H' : Hp) : Prop where
  pre : ∃ w, u' = u ++ w ∧ ∀ a ∈ w, H a = none
  tup : ∀ a vs, H a = some (.tup vs) → H' a = some (.tup vs)
  frz : ∀ a o x, H a = some (.frz o x) → H' a = some (.frz o x)
  frm : ∀ a o, H a = some o → a ∉ u → H' a = some o
  liv : ∀ a, H' a = none → H a = none
section
variable {K : Fr} {u u' u2 : List Addr} {H H' H2 : Hp}
theorem Later.refl : Later u H u H := ⟨⟨[], by simp, by simp⟩, fun _ _ h => h, fun _ _ _ h => h, fun _ _ h _ => h, fun _ h => h⟩
theorem Later.sub (l : Later u H u' H') {n : Nat} {a : Addr} (h : u[n]? = some a) : u'[n]? = some a := by
  obtain ⟨w, rfl, _⟩ := l.pre
  rw [List.getElem?_append_left (List.getElem?_eq_some_iff.mp h).1]
  exact h
theorem Later.trans (l : Later u H u' H') (m : Later u' H' u2 H2) : Later u H u2 H2 := by
  obtain ⟨w, rfl, hw⟩ := l.pre
  obtain ⟨w2, rfl, hw2⟩ := m.pre
  refine ⟨⟨w ++ w2, by simp, fun a ha => ?_⟩, fun a vs h => m.tup a vs (l.tup a vs h), fun a o x h => m.frz a o x (l.frz a o x h), fun a o h hn => ?_, fun a h => l.liv a (m.liv a h)⟩
  · rcases List.mem_append.mp ha with ha | ha
    · exact hw a ha
    · exact l.liv a (hw2 a ha)
  · refine m.frm a o (l.frm a o h hn) fun z => ?_
    rcases List.mem_append.mp z with z | z
    · exact hn z
    · rw [hw a z] at h
      cases h
/-- something new is tracked -/
theorem Later.new {p : Addr} {o : HO} (hp : H p = none) : Later u H u (upd H p o) :=
  ⟨⟨[], by simp, by simp⟩, fun a vs h => by rw [upd_ne (ne_of_none h hp)]; exact h, fun a o x h => by rw [upd_ne (ne_of_none h hp)]; exact h, fun a o h _ => by rw [upd_ne (ne_of_none h hp)]; exact h,
    fun a h => by
      by_cases e : a = p
      · rw [e]; exact hp
      · rw [upd_ne e] at h; exact h⟩
/-- .. and named -/
theorem Later.name {p : Addr} (h0 : H p = none) (l : Later u H u H') : Later u H (u ++ [p]) H' :=
  ⟨⟨[p], rfl, fun a ha => by rw [List.mem_singleton.mp ha]; exact h0⟩, l.tup, l.frz, l.frm, l.liv⟩
/-- a named thing that may be written is written -/
theorem Later.set {p : Addr} {o o' : HO} (hu : p ∈ u) (hp : H p = some o) (h1 : ∀ vs, o ≠ .tup vs) (h2 : ∀ ob x, o ≠ .frz ob x) : Later u H u (upd H p o') :=
  ⟨⟨[], by simp, by simp⟩, fun a vs h => by
      by_cases e : a = p
      · subst e; rw [hp] at h; cases h; exact absurd rfl (h1 vs)
      · rw [upd_ne e]; exact h, fun a ob x h => by
      by_cases e : a = p
      · subst e; rw [hp] at h; cases h; exact absurd rfl (h2 ob x)
      · rw [upd_ne e]; exact h, fun a o h hn => by
      have e : a ≠ p := fun e => hn (by rw [e]; exact hu)
      rw [upd_ne e]; exact h, fun a h => by
      by_cases e : a = p
      · subst e; rw [upd_same] at h; cases h
      · rw [upd_ne e] at h; exact h⟩
/-- what the data lean on -/
structure Wk (u : List Addr) (H : Hp) (u' : List Addr) (H' : Hp) : Prop where
  sub : ∀ (n : Nat) (a : Addr), u[n]? = some a → u'[n]? = some a
  tup : ∀ a vs, H a = some (.tup vs) → H' a = some (.tup vs)
  frz : ∀ a o x, H a = some (.frz o x) → H' a = some (.frz o x)
theorem Later.wk (l : Later u H u' H') : Wk u H u' H' := ⟨fun _ _ => l.sub, l.tup, l.frz⟩
theorem Wk.more {p : Addr} : Wk u H (u ++ [p]) H := ⟨fun n a e => by rw [List.getElem?_append_left (List.getElem?_eq_some_iff.mp e).1]; exact e, fun _ _ h => h, fun _ _ _ h => h⟩
theorem SqT.later (l : Wk u H u' H') {a : Addr} {xs : List V} (h : SqT K H a xs) : SqT K H' a xs := by
  rcases h with (h | ⟨o, h⟩) | h
  · exact .inl (.inl (l.tup a xs h))
  · exact .inl (.inr ⟨o, l.frz a o _ h⟩)
  · exact .inr h
theorem SqF.later (l : Wk u H u' H') {a : Addr} {xs : List V} (h : SqF K H a xs) : SqF K H' a xs := by
  rcases h with ⟨o, h⟩ | h
  · exact .inl ⟨o, l.frz a o _ h⟩
  · exact .inr h
mutual
theorem RV.later (l : Wk u H u' H') : ∀ (d : D) (v : V), RV K u H d v → RV K u' H' d v
  | .non, _, h => by cases h; exact .non
  | .bl b, _, h => by cases h; exact .bl b
  | .int i, _, h => by cases h; exact .int i
  | .str s, _, h => by cases h; exact .str s
  | .tup ds, _, h => by
    cases h with
    | tup hs hr => exact .tup (l.tup _ _ hs) (RVs.later l ds _ hr)
  | .lst ds, _, h => by
    cases h with
    | lst hs hr => exact .lst (SqF.later l hs) (RVs.later l ds _ hr)
  | .ref n, _, h => by
    cases h with
    | ref e => exact .ref (l.sub _ _ e)
theorem RVs.later (l : Wk u H u' H') : ∀ (ds : List D) (vs : List V), RVs K u H ds vs → RVs K u' H' ds vs
  | [], _, h => by cases h; exact .nil
  | d :: ds, _, h => by
    cases h with
    | cons a b => exact .cons (RV.later l d _ a) (RVs.later l ds _ b)
end
theorem RV.up {d : D} {v : V} (r : RV K u H d v) (l : Later u H u' H') : RV K u' H' d v := RV.later l.wk d v r
theorem RVs.up {d : List D} {v : List V} (r : RVs K u H d v) (l : Later u H u' H') : RVs K u' H' d v := RVs.later l.wk d v r
theorem RV.upw {d : D} {v : V} (r : RV K u H d v) (l : Wk u H u' H') : RV K u' H' d v := RV.later l d v r
theorem RVs.upw {d : List D} {v : List V} (r : RVs K u H d v) (l : Wk u H u' H') : RVs K u' H' d v := RVs.later l d v r
theorem RVs.length : ∀ {ds : List D} {vs : List V}, RVs K u H ds vs → ds.length = vs.length
  | _, _, .nil => rfl
  | _, _, .cons _ t => congrArg (· + 1) t.length
theorem RVs.get : ∀ {ds : List D} {vs : List V} {i : Nat} {d : D}, RVs K u H ds vs → ds[i]? = some d → ∃ v, vs[i]? = some v ∧ RV K u H d v
  | _, _, i, d, .nil, e => by simp at e
  | _, _, 0, d, .cons r _, e => by simp at e; subst e; exact ⟨_, rfl, r⟩
  | _, _, i + 1, d, .cons _ t, e => by
    obtain ⟨v, h1, h2⟩ := RVs.get (i := i) (d := d) t (by simpa using e)
    exact ⟨v, by simpa using h1, h2⟩
theorem RVs.getV : ∀ {ds : List D} {vs : List V} {i : Nat} {v : V}, RVs K u H ds vs → vs[i]? = some v → ∃ d, ds[i]? = some d ∧ RV K u H d v
  | _, _, i, d, .nil, e => by simp at e
  | _, _, 0, d, .cons r _, e => by simp at e; subst e; exact ⟨_, rfl, r⟩
  | _, _, i + 1, v, .cons _ t, e => by
    obtain ⟨d, h1, h2⟩ := RVs.getV (i := i) (v := v) t (by simpa using e)
    exact ⟨d, by simpa using h1, h2⟩
theorem RVs.append : ∀ {ds es : List D} {vs ws : List V}, RVs K u H ds vs → RVs K u H es ws → RVs K u H (ds ++ es) (vs ++ ws)
  | _, _, _, _, .nil, s => s
  | _, _, _, _, .cons r t, s => .cons r (RVs.append t s)
theorem RVs.take : ∀ {ds : List D} {vs : List V} (n : Nat), RVs K u H ds vs → RVs K u H (ds.take n) (vs.take n)
  | _, _, 0, _ => .nil
  | _, _, _ + 1, .nil => .nil
  | _, _, n + 1, .cons r t => .cons r (RVs.take n t)
theorem RVs.drop : ∀ {ds : List D} {vs : List V} (n : Nat), RVs K u H ds vs → RVs K u H (ds.drop n) (vs.drop n)
  | _, _, 0, r => r
  | _, _, _ + 1, .nil => .nil
  | _, _, n + 1, .cons _ t => RVs.drop n t
theorem RVs.set {d : D} {v : V} (r : RV K u H d v) : ∀ {ds : List D} {vs : List V} (i : Nat), RVs K u H ds vs → RVs K u H (ds.set i d) (vs.set i v)
  | _, _, _, .nil => .nil
  | _, _, 0, .cons _ t => .cons r t
  | _, _, i + 1, .cons q t => .cons q (RVs.set r i t)
theorem RVs.reverse : ∀ {ds : List D} {vs : List V}, RVs K u H ds vs → RVs K u H ds.reverse vs.reverse
  | _, _, .nil => .nil
  | _, _, .cons r t => by
    rw [List.reverse_cons, List.reverse_cons]
    exact RVs.append (RVs.reverse t) (.cons r .nil)
theorem RVs.dropLast : ∀ {ds : List D} {vs : List V}, RVs K u H ds vs → RVs K u H ds.dropLast vs.dropLast
  | _, _, .nil => .nil
  | _, _, .cons _ .nil => .nil
  | _, _, .cons r (.cons r2 t) => .cons r (RVs.dropLast (.cons r2 t))
theorem RVs.eraseIdx : ∀ {ds : List D} {vs : List V} (i : Nat), RVs K u H ds vs → RVs K u H (ds.eraseIdx i) (vs.eraseIdx i)
  | _, _, _, .nil => .nil
  | _, _, 0, .cons _ t => t
  | _, _, i + 1, .cons r t => .cons r (RVs.eraseIdx i t)
theorem RVs.ints : ∀ {ds : List D} {vs : List V} {ns : List Int}, RVs K u H ds vs → intsD ds = some ns → vs = ns.map V.int
  | _, _, ns, .nil, e => by simp [intsD] at e; subst e; rfl
  | _, _, ns, .cons r t, e => by
    cases r with
    | int i =>
      simp only [intsD, Option.map_eq_some_iff] at e
      obtain ⟨ms, e1, rfl⟩ := e
      rw [RVs.ints t e1, List.map_cons]
    | _ => simp [intsD] at e
theorem RVs.ofInts : ∀ (ns : List Int), RVs K u H (ns.map D.int) (ns.map V.int)
  | [] => .nil
  | n :: ns => .cons (.int n) (RVs.ofInts ns)
theorem RVs.bools : ∀ {ds : List D} {vs : List V} {ns : List Bool}, RVs K u H ds vs → boolsD ds = some ns → vs = ns.map V.bl
  | _, _, ns, .nil, e => by simp [boolsD] at e; subst e; rfl
  | _, _, ns, .cons r t, e => by
    cases r with
    | bl i =>
      simp only [boolsD, Option.map_eq_some_iff] at e
      obtain ⟨ms, e1, rfl⟩ := e
      rw [RVs.bools t e1, List.map_cons]
    | _ => simp [boolsD] at e
theorem RVs.strs : ∀ {ds : List D} {vs : List V} {ns : List Str}, RVs K u H ds vs → strsD ds = some ns → vs = ns.map V.str
  | _, _, ns, .nil, e => by simp [strsD] at e; subst e; rfl
  | _, _, ns, .cons r t, e => by
    cases r with
    | str i =>
      simp only [strsD, Option.map_eq_some_iff] at e
      obtain ⟨ms, e1, rfl⟩ := e
      rw [RVs.strs t e1, List.map_cons]
    | _ => simp [strsD] at e
/-- the pairs of a dict, the attributes of an instance -/
inductive RKs {κ : Type} (K : Fr) (u : List Addr) (H : Hp) : List (κ × D) → List (κ × V) → Prop
  | nil : RKs K u H [] []
  | cons {k : κ} {d : D} {v : V} {ds : List (κ × D)} {vs : List (κ × V)} : RV K u H d v → RKs K u H ds vs → RKs K u H ((k, d) :: ds) ((k, v) :: vs)
section
variable {κ : Type}
theorem RKs.upw (l : Wk u H u' H') : ∀ {ds : List (κ × D)} {vs : List (κ × V)}, RKs K u H ds vs → RKs K u' H' ds vs
  | _, _, .nil => .nil
  | _, _, .cons r t => .cons (r.upw l) (RKs.upw l t)
theorem RKs.up (l : Later u H u' H') {ds : List (κ × D)} {vs : List (κ × V)} (r : RKs K u H ds vs) : RKs K u' H' ds vs := r.upw l.wk
theorem RKs.length : ∀ {ds : List (κ × D)} {vs : List (κ × V)}, RKs K u H ds vs → ds.length = vs.length
  | _, _, .nil => rfl
  | _, _, .cons _ t => congrArg (· + 1) t.length
theorem RKs.keys : ∀ {ds : List (κ × D)} {vs : List (κ × V)}, RKs K u H ds vs → ds.map (·.1) = vs.map (·.1)
  | _, _, .nil => rfl
  | _, _, .cons _ t => by rw [List.map_cons, List.map_cons, RKs.keys t]
theorem RKs.append : ∀ {ds es : List (κ × D)} {vs ws : List (κ × V)}, RKs K u H ds vs → RKs K u H es ws → RKs K u H (ds ++ es) (vs ++ ws)
  | _, _, _, _, .nil, s => s
  | _, _, _, _, .cons r t, s => .cons r (RKs.append t s)
variable [DecidableEq κ]
theorem RKs.any (k : κ) : ∀ {ds : List (κ × D)} {vs : List (κ × V)}, RKs K u H ds vs → (ds.any fun p => decide (p.1 = k)) = (vs.any fun p => decide (p.1 = k))
  | _, _, .nil => rfl
  | _, _, .cons _ t => by rw [List.any_cons, List.any_cons, RKs.any k t]
theorem RKs.get (k : κ) : ∀ {ds : List (κ × D)} {vs : List (κ × V)}, RKs K u H ds vs → (getKD ds k = none ∧ valV vs k = none) ∨ ∃ d v, getKD ds k = some d ∧ valV vs k = some v ∧ RV K u H d v
  | _, _, .nil => .inl ⟨rfl, rfl⟩
  | _, _, .cons (k := k2) r t => by
    unfold getKD valV
    rw [List.find?_cons, List.find?_cons]
    by_cases e : k2 = k
    · simp only [e, decide_true, Option.map_some]
      exact .inr ⟨_, _, rfl, rfl, r⟩
    · simp only [e, decide_false]
      exact RKs.get k t
theorem RKs.map_set (k : κ) {d : D} {v : V} (r : RV K u H d v) : ∀ {ds : List (κ × D)} {vs : List (κ × V)}, RKs K u H ds vs → RKs K u H (ds.map fun kv => if kv.1 = k then (kv.1, d) else kv) (vs.map fun kv => if kv.1 = k then (kv.1, v) else kv)
  | _, _, .nil => .nil
  | _, _, .cons (k := k2) q t => by
    rw [List.map_cons, List.map_cons]
    by_cases e : k2 = k
    · simp only [e, if_true]
      exact .cons r (RKs.map_set k r t)
    · simp only [e, if_false]
      exact .cons q (RKs.map_set k r t)
theorem RKs.put (k : κ) {d : D} {v : V} (r : RV K u H d v) {ds : List (κ × D)} {vs : List (κ × V)} (q : RKs K u H ds vs) : RKs K u H (putKD ds k d) (putK vs k v) := by
  unfold putKD putK
  rw [q.any k]
  split
  · exact q.map_set k r
  · exact q.append (.cons r .nil)
theorem RKs.drop (k : κ) : ∀ {ds : List (κ × D)} {vs : List (κ × V)}, RKs K u H ds vs → RKs K u H (dropKD ds k) (dropK vs k)
  | _, _, .nil => .nil
  | _, _, .cons (k := k2) r t => by
    unfold dropKD dropK
    rw [List.filter_cons, List.filter_cons]
    by_cases e : k2 = k
    · simp only [e, ne_eq, not_true_eq_false, decide_false, Bool.false_eq_true, if_false]
      exact RKs.drop k t
    · simp only [e, ne_eq, not_false_eq_true, decide_true, if_true]
      exact .cons r (RKs.drop k t)
end
theorem RKs.putF (f : Str) {d : D} {v : V} (r : RV K u H d v) : ∀ {ds : List (Str × D)} {vs : List (Str × V)}, RKs K u H ds vs → RKs K u H (putFD f d ds) (putF f v vs)
  | _, _, .nil => .cons r .nil
  | _, _, .cons (k := k2) q t => by
    unfold putFD L2.putF
    split
    · exact .cons r t
    · exact .cons q (RKs.putF f r t)
theorem RKs.lookup (f : Str) : ∀ {ds : List (Str × D)} {vs : List (Str × V)}, RKs K u H ds vs → (ds.lookup f = none ∧ vs.lookup f = none) ∨ ∃ d v, ds.lookup f = some d ∧ vs.lookup f = some v ∧ RV K u H d v
  | _, _, .nil => .inl ⟨rfl, rfl⟩
  | _, _, .cons (k := k2) r t => by
    rw [List.lookup_cons, List.lookup_cons]
    cases e : f == k2 with
    | true => exact .inr ⟨_, _, rfl, rfl, r⟩
    | false => exact RKs.lookup f t

/-! ### the store -/
variable {ct : Nat → Option Addr}
def OR (K : Fr) (ct : Nat → Option Addr) (u : List Addr) (H : Hp) (a : Addr) : MO → Prop
  | .lst ds => ∃ vs, H a = some (.lst vs) ∧ RVs K u H ds vs
  | .frz ds => ∃ vs o, H a = some (.frz o (.lst vs)) ∧ RVs K u H ds vs
  | .dct kvs => ∃ vs, H a = some (.dK vs) ∧ RKs K u H kvs vs
  | .dtp kvs => ∃ vs, H a = some (.dT vs) ∧ RKs K u H kvs vs
  | .ins c fs => ∃ C dx vs, ct c = some C ∧ H a = some (.ins C dx vs) ∧ RKs K u H fs vs
structure HR (K : Fr) (ct : Nat → Option Addr) (u : List Addr) (h : Hs) (H : Hp) : Prop where
  len : u.length = h.length
  nd : u.Nodup
  ob : ∀ (n : Nat) (o : MO) (a : Addr), h[n]? = some o → u[n]? = some a → OR K ct u H a o
theorem OR.live {a : Addr} {o : MO} (r : OR K ct u H a o) : ∃ x, H a = some x := by
  cases o with
  | lst ds => obtain ⟨vs, e, _⟩ := r; exact ⟨_, e⟩
  | frz ds => obtain ⟨vs, o, e, _⟩ := r; exact ⟨_, e⟩
  | dct ds => obtain ⟨vs, e, _⟩ := r; exact ⟨_, e⟩
  | dtp ds => obtain ⟨vs, e, _⟩ := r; exact ⟨_, e⟩
  | ins c ds => obtain ⟨C, dx, vs, _, e, _⟩ := r; exact ⟨_, e⟩
/-- the object itself stands -/
theorem OR.upw {a : Addr} {o : MO} (r : OR K ct u H a o) (l : Wk u H u' H') (e : H' a = H a) : OR K ct u' H' a o := by
  cases o with
  | lst ds => obtain ⟨vs, q, r⟩ := r; exact ⟨vs, e.trans q, r.upw l⟩
  | frz ds => obtain ⟨vs, o, q, r⟩ := r; exact ⟨vs, o, e.trans q, r.upw l⟩
  | dct ds => obtain ⟨vs, q, r⟩ := r; exact ⟨vs, e.trans q, r.upw l⟩
  | dtp ds => obtain ⟨vs, q, r⟩ := r; exact ⟨vs, e.trans q, r.upw l⟩
  | ins c ds => obtain ⟨C, dx, vs, k, q, r⟩ := r; exact ⟨C, dx, vs, k, e.trans q, r.upw l⟩
theorem OR.up {a : Addr} {o : MO} (r : OR K ct u H a o) (l : Later u H u' H') (e : H' a = H a) : OR K ct u' H' a o := r.upw l.wk e
variable {h : Hs}
theorem HR.at (R : HR K ct u h H) {n : Nat} {o : MO} (e : h[n]? = some o) : ∃ a, u[n]? = some a ∧ OR K ct u H a o := by
  have hn : n < u.length := by rw [R.len]; exact (List.getElem?_eq_some_iff.mp e).1
  exact ⟨u[n], List.getElem?_eq_getElem hn, R.ob n o _ e (List.getElem?_eq_getElem hn)⟩
theorem HR.at' (R : HR K ct u h H) {n : Nat} {o : MO} {a : Addr} (e : h[n]? = some o) (ha : u[n]? = some a) : OR K ct u H a o := R.ob n o a e ha
theorem HR.live (R : HR K ct u h H) {a : Addr} (ha : a ∈ u) : ∃ x, H a = some x := by
  obtain ⟨n, hn, e⟩ := List.mem_iff_getElem.mp ha
  have e2 : u[n]? = some a := by rw [List.getElem?_eq_getElem hn, e]
  have hn2 : n < h.length := by rw [← R.len]; exact hn
  exact (R.ob n h[n] a (List.getElem?_eq_getElem hn2) e2).live
theorem HR.notIn (R : HR K ct u h H) {p : Addr} (hp : H p = none) : p ∉ u := fun z => by
  obtain ⟨x, e⟩ := R.live z
  rw [hp] at e
  cases e
/-- something new that has no number -/
theorem HR.new (R : HR K ct u h H) {p : Addr} {o : HO} (hp : H p = none) : HR K ct u h (upd H p o) :=
  ⟨R.len, R.nd, fun n o a e ha => (R.ob n o a e ha).up (Later.new hp) (upd_ne fun z => R.notIn hp (by rw [← z]; exact List.mem_of_getElem? ha))⟩
/-- what stands at p gets the next number -/
theorem HR.name (R : HR K ct u h H) {p : Addr} {o : MO} (hp : p ∉ u) (ho : OR K ct (u ++ [p]) H p o) : HR K ct (u ++ [p]) (h ++ [o]) H := by
  refine ⟨by simp [R.len], ?_, fun n o' a e ha => ?_⟩
  · rw [List.nodup_append]
    refine ⟨R.nd, by simp, fun a ha b hb => ?_⟩
    rw [List.mem_singleton.mp hb]
    rintro rfl
    exact hp ha
  · by_cases hn : n < h.length
    · rw [List.getElem?_append_left hn] at e
      rw [List.getElem?_append_left (by rw [R.len]; exact hn)] at ha
      exact (R.ob n o' a e ha).upw Wk.more rfl
    · have e1 : n = h.length := by
        have := (List.getElem?_eq_some_iff.mp e).1
        simp only [List.length_append, List.length_singleton] at this
        omega
      subst e1
      rw [List.getElem?_append_right (Nat.le_refl _), Nat.sub_self] at e
      rw [List.getElem?_append_right (by rw [R.len]; exact Nat.le_refl _), R.len, Nat.sub_self] at ha
      simp at e ha
      subst e ha
      exact ho
/-- the object with the number n is another one now -/
theorem HR.set (R : HR K ct u h H) {n : Nat} {p : Addr} {o' : HO} {m : MO} (hp : u[n]? = some p) (l : Later u H u (upd H p o')) (ho : OR K ct u (upd H p o') p m) : HR K ct u (h.set n m) (upd H p o') := by
  refine ⟨by rw [List.length_set]; exact R.len, R.nd, fun k o a e ha => ?_⟩
  by_cases hk : n = k
  · subst hk
    have hn : n < h.length := by
      have := (List.getElem?_eq_some_iff.mp e).1
      rwa [List.length_set] at this
    rw [List.getElem?_set_self hn] at e
    cases e
    rw [hp] at ha
    cases ha
    exact ho
  · rw [List.getElem?_set_ne hk] at e
    have hne : a ≠ p := fun z => by
      subst z
      have h1 := (List.getElem?_eq_some_iff.mp hp).1
      have h2 := (List.getElem?_eq_some_iff.mp ha).1
      have e1 := (List.getElem?_eq_some_iff.mp hp).2
      have e2 := (List.getElem?_eq_some_iff.mp ha).2
      exact hk ((List.getElem_inj R.nd).mp (e1.trans e2.symm))
    exact (R.ob k o a e ha).up l (upd_ne hne)
end
end PX

/-! PXc: the operations on values are the model's. -/
namespace PX
open PySem PySem.Spec PyProof.Rows L2
theorem lim_eq : lim = sizeLine := by rw [sizeLine_eq]; rfl
section
variable {K : Fr} {ct : Nat → Option Addr} {u : List Addr} {h : Hs} {H : Hp}
/-- what must follow where an operation hands back r -/
def PR (K : Fr) (ct : Nat → Option Addr) (u : List Addr) (H : Hp) (r : Res Raw) (Q : VK) : Prop := match r with
  | .ok (.val d) h' => ∀ u' H' v, Later u H u' H' → HR K ct u' h' H' → RV K u' H' d v → Q v H'
  | .ok (.new xs) h' => ∀ u' H' p vs, Later u H u' H' → HR K ct u' h' H' → p ∉ u' → H p = none → H' p = some (.lst vs) → RVs K u' H' xs vs → Q (.ref p) H'
  | .err _ _ _ => True
  | .stuck => False
theorem PR.here {d : D} {Q : VK} {v : V} (q : PR K ct u H (.ok (.val d) h) Q) (R : HR K ct u h H) (r : RV K u H d v) : Q v H := q u H v Later.refl R r
theorem PR.newL {xs : List D} {Q : VK} {vs : List V} (q : PR K ct u H (.ok (.new xs) h) Q) (R : HR K ct u h H) (r : RVs K u H xs vs) {p : Addr} (hp : H p = none) : Q (.ref p) (upd H p (.lst vs)) :=
  q u _ p vs (Later.new hp) (R.new hp) (R.notIn hp) hp upd_same (r.up (Later.new hp))
theorem PR.newT {xs : List D} {Q : VK} {vs : List V} (q : PR K ct u H (.ok (.val (.tup xs)) h) Q) (R : HR K ct u h H) (r : RVs K u H xs vs) {p : Addr} (hp : H p = none) : Q (.ref p) (upd H p (.tup vs)) :=
  q u _ (.ref p) (Later.new hp) (R.new hp) (.tup upd_same (r.up (Later.new hp)))
theorem PR.opt {o : Option D} {Q : VK} (q : PR K ct u H (retO o h) Q) : ∃ d, o = some d ∧ PR K ct u H (.ok (.val d) h) Q := by
  cases o with
  | none => exact q.elim
  | some d => exact ⟨d, rfl, q⟩
/-- the object with the number n is written -/
theorem PR.put {d : D} {Q : VK} {v : V} {n : Nat} {p : Addr} {o o' : HO} {m : MO} (q : PR K ct u H (.ok (.val d) (h.set n m)) Q) (R : HR K ct u h H) (hp : u[n]? = some p) (e : H p = some o) (h1 : ∀ vs, o ≠ .tup vs) (h2 : ∀ ob x, o ≠ .frz ob x)
    (ho : OR K ct u (upd H p o') p m) (r : RV K u H d v) : Q v (upd H p o') := by
  have l : Later u H u (upd H p o') := Later.set (List.mem_of_getElem? hp) e h1 h2
  exact q u _ v l (R.set hp l ho) (r.up l)
/-- a list, by its number or locked -/
theorem RV.list {d : D} {x : V} {xs : List D} (r : RV K u H d x) (R : HR K ct u h H) (e : asList h d = some xs) : ∃ a vs, x = .ref a ∧ Lk K H a vs ∧ RVs K u H xs vs := by
  cases r with
  | lst hs hr =>
    simp only [asList, Option.some.injEq] at e
    subst e
    exact ⟨_, _, rfl, hs.r, hr⟩
  | @ref n a ha =>
    simp only [asList] at e
    cases hn : h[n]? with
    | none => rw [hn] at e; cases e
    | some o =>
      rw [hn] at e
      have z := R.ob n o _ hn ha
      cases o with
      | lst ys =>
        cases e
        obtain ⟨vs, e1, rr⟩ := z
        exact ⟨a, vs, rfl, .inl (.inl e1), rr⟩
      | frz ys =>
        cases e
        obtain ⟨vs, o, e1, rr⟩ := z
        exact ⟨a, vs, rfl, .inl (.inr ⟨o, e1⟩), rr⟩
      | _ => cases e
  | _ => cases e
/-- a sequence -/
theorem RV.seq {d : D} {x : V} {xs : List D} (r : RV K u H d x) (R : HR K ct u h H) (e : items h d = some xs) : ∃ a vs, x = .ref a ∧ (SqL K H a vs ∨ SqT K H a vs) ∧ RVs K u H xs vs := by
  cases r with
  | tup hs hr =>
    simp only [items, Option.some.injEq] at e
    subst e
    exact ⟨_, _, rfl, .inr (SqT.of hs), hr⟩
  | lst hs hr =>
    simp only [items, Option.some.injEq] at e
    subst e
    exact ⟨_, _, rfl, .inl hs.l, hr⟩
  | @ref n a ha =>
    simp only [items] at e
    cases hn : h[n]? with
    | none => rw [hn] at e; cases e
    | some o =>
      rw [hn] at e
      have z := R.ob n o _ hn ha
      cases o with
      | lst ys =>
        cases e
        obtain ⟨vs, e1, rr⟩ := z
        exact ⟨a, vs, rfl, .inl (.inl (.inl e1)), rr⟩
      | frz ys =>
        cases e
        obtain ⟨vs, o, e1, rr⟩ := z
        exact ⟨a, vs, rfl, .inl (.inl (.inr ⟨o, e1⟩)), rr⟩
      | _ => cases e
  | _ => cases e
end
section
variable {X : Cx} {ct : Nat → Option Addr} {pins : List (Addr × Obj)} {σ : L2.St} {H : Hp} {s : Shared}
theorem Inv.rd {a : Addr} {xs : List V} (I : Inv X pins σ H s) (h : Lk X.K H a xs) : ∃ (its : List Value) (n : Nat), xs.length ≤ sizeLine ∧ Vals xs its ∧ xs.length = its.length ∧ s.heap.get? a = some { cls := .type "list", data := .seq its.toArray n } := by
  rcases h with h | ⟨its, n, e, z, r⟩
  · obtain ⟨z, its, n, r, e⟩ := h.ok I.hok
    exact ⟨its, n, z, r, r.length, e⟩
  · exact ⟨its, n, by rw [r.length]; exact z, r, r.length, I.kIn _ _ e⟩
/-- what an operation of two values must be -/
def OpS (X : Cx) (ct : Nat → Option Addr) (f : Value → Value → Sem Value) (g : D → D → M Raw) : Prop :=
  OpR X f fun x y H Q => ∃ u h d e, HR X.K ct u h H ∧ RV X.K u H d x ∧ RV X.K u H e y ∧ PR X.K ct u H (g d e h) Q
/-- list + list -/
theorem op_catR : OpR X (binaryOp .Add) (fun x y H Q => ∃ a b xs ys, x = .ref a ∧ y = .ref b ∧ Lk X.K H a xs ∧ Lk X.K H b ys ∧ xs.length + ys.length ≤ sizeLine ∧ ∀ p, H p = none → Q (.ref p) (upd H p (.lst (xs ++ ys)))) := by
  intro pins s σ H x y v u Q I rx ry ⟨a, b, xs, ys, e1, e2, ha, hb, hz, q⟩
  subst e1 e2
  cases rx
  cases ry
  obtain ⟨i1, n1, z1, r1, l1, g1⟩ := Inv.rd I ha
  obtain ⟨i2, n2, z2, r2, l2, g2⟩ := Inv.rd I hb
  refine PySem.P.add_list g1 g2 ?_ (by simp only [List.size_toArray]; omega)
  rw [show i1.toArray ++ i2.toArray = (i1 ++ i2).toArray by simp]
  exact ⟨.ref _, _, I.lnew (t' := s.toks) (r1.append r2) (by simp only [List.length_append]; omega), rfl, q _ I.fresh⟩
theorem bin_add : OpS X ct (binaryOp .Add) (binD .add) := by
  intro pins s σ H x y v w Q I rx ry ⟨u, h, d, e, R, r1, r2, q⟩
  have lists : ∀ {xs ys : List D}, asList h d = some xs → asList h e = some ys → PR X.K ct u H (if xs.length + ys.length ≤ lim then .ok (.new (xs ++ ys)) h else .stuck) Q →
      wpAny (model X.prog X.w) X.A (binaryOp .Add v w) (EP X pins σ Q) X.xe s := fun {xs ys} e1 e2 q => by
    obtain ⟨a, vs, rfl, ha, q1⟩ := r1.list R e1
    obtain ⟨b, ws, rfl, hb, q2⟩ := r2.list R e2
    split at q
    · rename_i hz
      refine op_catR pins s σ H _ _ v w Q I rx ry ⟨a, b, vs, ws, rfl, rfl, ha, hb, ?_, fun p hp => q.newL R (q1.append q2) hp⟩
      rw [← q1.length, ← q2.length, ← lim_eq]
      exact hz
    · exact q.elim
  have other : PR X.K ct u H (match asList h d, asList h e with
      | some xs, some ys => if xs.length + ys.length ≤ lim then .ok (.new (xs ++ ys)) h else .stuck
      | _, _ => .stuck) Q → wpAny (model X.prog X.w) X.A (binaryOp .Add v w) (EP X pins σ Q) X.xe s := fun q => by
    cases e1 : asList h d with
    | none => rw [e1] at q; exact q.elim
    | some xs =>
      cases e2 : asList h e with
      | none => rw [e1, e2] at q; exact q.elim
      | some ys =>
        rw [e1, e2] at q
        exact lists e1 e2 q
  cases r1 with
  | int i =>
    cases r2 with
    | int j => exact op_add pins s σ H _ _ v w Q I rx ry ⟨i, j, rfl, rfl, q.here R (.int _)⟩
    | _ => exact other q
  | str x =>
    cases r2 with
    | str y =>
      simp only [binD] at q
      split at q
      · rename_i hz
        exact op_add_str pins s σ H _ _ v w Q I rx ry ⟨x, y, rfl, rfl, by rw [← lim_eq]; exact hz, q.here R (.str _)⟩
      · exact q.elim
    | _ => exact other q
  | tup h1 q1 =>
    cases r2 with
    | tup h2 q2 =>
      simp only [binD] at q
      split at q
      · rename_i hz
        refine op_catA pins s σ H _ _ v w Q I rx ry ⟨_, _, _, _, rfl, rfl, SqT.of h1, SqT.of h2, by rw [← q1.length, ← q2.length, ← lim_eq]; exact hz, fun e => ?_, fun _ e => ?_, fun _ _ p hp => q.newT R (q1.append q2) hp⟩
        · subst e
          have := q1.append q2
          cases q1
          exact q.here R (.tup h2 q2)
        · subst e
          cases q2
          refine q.here R (.tup h1 ?_)
          rw [List.append_nil]
          exact q1
      · exact q.elim
    | _ => exact other q
  | _ => exact other q
theorem bin_sub : OpS X ct (binaryOp .Sub) (binD .sub) := by
  intro pins s σ H x y v w Q I rx ry ⟨u, h, d, e, R, r1, r2, q⟩
  cases r1 with
  | int i =>
    cases r2 with
    | int j => exact op_sub pins s σ H _ _ v w Q I rx ry ⟨i, j, rfl, rfl, q.here R (.int _)⟩
    | _ => exact q.elim
  | _ => exact q.elim
theorem bin_mod : OpS X ct (binaryOp .Mod) (binD .mod) := by
  intro pins s σ H x y v w Q I rx ry ⟨u, h, d, e, R, r1, r2, q⟩
  cases r1 with
  | int i =>
    cases r2 with
    | int j =>
      simp only [binD] at q
      split at q
      · rename_i hz
        exact op_mod pins s σ H _ _ v w Q I rx ry ⟨i, j, rfl, rfl, hz, q.here R (.int _)⟩
      · exact q.elim
    | _ => exact q.elim
  | _ => exact q.elim
theorem bin_fdiv : OpS X ct (binaryOp .FloorDiv) (binD .fdiv) := by
  intro pins s σ H x y v w Q I rx ry ⟨u, h, d, e, R, r1, r2, q⟩
  cases r1 with
  | int i =>
    cases r2 with
    | int j =>
      simp only [binD] at q
      split at q
      · rename_i hz
        exact op_fdiv pins s σ H _ _ v w Q I rx ry ⟨i, j, rfl, rfl, hz, q.here R (.int _)⟩
      · exact q.elim
    | _ => exact q.elim
  | _ => exact q.elim
/-- a list times an int -/
theorem op_repR : OpR X (binaryOp .Mult) (fun x y H Q => ∃ a k xs, x = .ref a ∧ y = .int k ∧ Lk X.K H a xs ∧ -(2 ^ 63) ≤ k ∧ k < 2 ^ 63 ∧ xs.length * k.toNat ≤ sizeLine ∧ ∀ p, H p = none → Q (.ref p) (upd H p (.lst (List.replicate k.toNat xs).flatten))) := by
  intro pins s σ H x y v u Q I rx ry ⟨a, k, xs, e1, e2, ha, h1, h2, hz, q⟩
  subst e1 e2
  cases rx
  obtain ⟨t, rfl⟩ := ry
  obtain ⟨its, n, z, r, hl, g⟩ := Inv.rd I ha
  have room : its.toArray.size * k.toNat ≤ sizeLine := by
    rw [List.size_toArray, ← hl]
    exact hz
  have cap : ¬ its.toArray.size * k.toNat > (2 ^ 63 - 1) / 8 := by
    have : (sizeLine : Nat) ≤ (2 ^ 63 - 1) / 8 := by decide
    omega
  have fits : ¬ (!Builtin.List.listFitsIndex k) = true := by
    rw [fitsIndex_both h1 h2]
    simp
  have short : ¬ Builtin.List.listTooLong (its.toArray.size * k.toNat) = true := by
    rw [notLongL room]
    simp
  have whole : List.foldl (fun x1 x2 => x1 ++ x2) #[] (List.replicate (if its.toArray.isEmpty = true then 0 else k.toNat) its.toArray) = (List.replicate k.toNat its).flatten.toArray := by
    have f0 : ∀ m : Nat, List.foldl (fun x1 x2 => x1 ++ x2) #[] (List.replicate m its.toArray) = (List.replicate m its).flatten.toArray := fun m => by
      have z := foldl_rep its m []
      rwa [List.nil_append] at z
    rw [f0]
    cases its with
    | nil => simp
    | cons b rest => rw [if_neg (by simp)]
  have times : (List.replicate k.toNat xs).flatten.length ≤ sizeLine := by
    rw [PyProof.Rows.lm_len_rep_flat, Nat.mul_comm]
    exact hz
  refine wpAny_binaryOp_repeat_ref (T := "list") (U := "int") (by decide) ⟨_, g, rfl⟩ (fun s' => typeIs_int s' k t) noFill_list_mul F.fills_int_mul F.slot_int_rmul repeat_list F.slot_int_index.lookup ?_
  refine call_meets F.slot_int_rmul (typeIs_int s k t) F.entry_int_rmul (F.args_int_rmul_2 _ _) (int___rmul___int_list k t a its.toArray n) ⟨g, rfl, ⟨_, g, rfl⟩, ?_⟩
  refine call_meets F.slot_list_mul ⟨_, g, rfl⟩ F.entry_list_mul (F.args_list_mul_2 _ _) (AutoListH.list___mul___list_int_3 a its.toArray n k t fits cap short) ⟨g, ?_⟩
  rw [whole]
  exact ⟨.ref _, _, I.lnew (t' := s.toks) (r.rep k.toNat) times, rfl, q _ I.fresh⟩
theorem RVs.rep {K : Fr} {u : List Addr} {H : Hp} {ds : List D} {vs : List V} (r : RVs K u H ds vs) : ∀ n : Nat, RVs K u H (List.replicate n ds).flatten (List.replicate n vs).flatten
  | 0 => .nil
  | n + 1 => by
    rw [List.replicate_succ, List.replicate_succ, List.flatten_cons, List.flatten_cons]
    exact r.append (RVs.rep r n)
theorem bin_mul : OpS X ct (binaryOp .Mult) (binD .mul) := by
  intro pins s σ H x y v w Q I rx ry ⟨u, h, d, e, R, r1, r2, q⟩
  have lists : ∀ {k : Int}, y = .int k → PR X.K ct u H (match asList h d with
      | some xs => if k.natAbs < 2 ^ 62 ∧ xs.length * k.toNat ≤ lim then .ok (.new (List.replicate k.toNat xs).flatten) h else .stuck
      | none => .stuck) Q → wpAny (model X.prog X.w) X.A (binaryOp .Mult v w) (EP X pins σ Q) X.xe s := fun {k} ey q => by
    cases e1 : asList h d with
    | none => rw [e1] at q; exact q.elim
    | some xs =>
      rw [e1] at q
      simp only at q
      obtain ⟨a, vs, rfl, ha, q1⟩ := r1.list R e1
      split at q
      · rename_i hz
        refine op_repR pins s σ H _ _ v w Q I rx ry ⟨a, k, vs, rfl, ey, ha, by omega, by omega, ?_, fun p hp => q.newL R (q1.rep _) hp⟩
        rw [← q1.length, ← lim_eq]
        exact hz.2
      · exact q.elim
  cases r2 with
  | int j =>
    cases r1 with
    | int i =>
      simp only [binD] at q
      split at q
      · rename_i hz
        refine op_mul pins s σ H _ _ v w Q I rx ry ⟨i, j, rfl, rfl, ?_, q.here R (.int _)⟩
        rcases hz with hz | hz
        · exact .inl ⟨by omega, by omega⟩
        · exact .inr ⟨by omega, by omega⟩
      · exact q.elim
    | _ => exact lists rfl q
  | _ => cases r1 <;> exact q.elim
theorem bin_pow : OpS X ct (binaryOp .Pow) (binD .pow) := by
  intro pins s σ H x y v w Q I rx ry ⟨u, h, d, e, R, r1, r2, q⟩
  cases r1 with
  | int i =>
    cases r2 with
    | int j =>
      simp only [binD] at q
      split at q
      · rename_i hz
        exact op_pow pins s σ H _ _ v w Q I rx ry ⟨i, j, rfl, rfl, ⟨hz.1, by omega, hz.2.2⟩, q.here R (.int _)⟩
      · exact q.elim
    | _ => exact q.elim
  | _ => exact q.elim
end
end PX

/-! PXd: comparisons, subscripts, slices. -/
namespace PX
open PySem PySem.Spec PyProof.Rows L2
mutual
def toPy : D → PyData
  | .non => .none
  | .bl b => .bool b
  | .int i => .int i
  | .str s => .str s
  | .tup xs => .tuple (toPys xs)
  | .lst xs => .list (toPys xs)
  | .ref _ => .none
def toPys : List D → List PyData
  | [] => []
  | x :: xs => toPy x :: toPys xs
end
mutual
theorem toPy_depth : ∀ d : D, (toPy d).depth = depD d
  | .non => rfl
  | .bl _ => rfl
  | .int _ => rfl
  | .str _ => rfl
  | .ref _ => rfl
  | .tup xs => by simp only [toPy, PyData.depth, depD, toPys_depth xs]
  | .lst xs => by simp only [toPy, PyData.depth, depD, toPys_depth xs]
theorem toPys_depth : ∀ ds : List D, PyData.depthAll (toPys ds) = depDs ds
  | [] => rfl
  | x :: xs => by simp only [toPys, PyData.depthAll, depDs, toPy_depth x, toPys_depth xs]
end
mutual
theorem toPy_lay : ∀ d : D, fair d = true → (toPy d).canLay0 = true
  | .non, _ => rfl
  | .bl _, _ => rfl
  | .int _, _ => rfl
  | .str s, h => by simpa [fair, toPy, PyData.canLay0] using h
  | .ref _, h => by simp [fair] at h
  | .tup xs, h => by
    simp only [fair] at h
    simp only [toPy, PyData.canLay0, toPys_lay xs h]
  | .lst xs, h => by
    simp only [fair] at h
    simp only [toPy, PyData.canLay0, toPys_lay xs h]
theorem toPys_lay : ∀ ds : List D, fairs ds = true → PyData.canLayAll0 (toPys ds) = true
  | [], _ => rfl
  | x :: xs, h => by
    simp only [fairs, Bool.and_eq_true] at h
    simp only [toPys, PyData.canLayAll0, toPy_lay x h.1, toPys_lay xs h.2, Bool.and_self]
end
theorem shaped_of {d : D} (h1 : fair d = true) (h2 : depD d ≤ 64) : SeqAt.shaped (toPy d) = true := by
  unfold SeqAt.shaped
  rw [toPy_lay d h1, toPy_depth, decide_eq_true h2, Bool.and_self]
mutual
theorem eqv_toPy : ∀ d e : D, fair d = true → fair e = true → PyData.eqv (toPy d) (toPy e) = eqD d e
  | .non, e, _, he => by cases e <;> first | rfl | simp [fair] at he
  | .bl a, e, _, he => by
    cases e <;> first | rfl | (simp [fair] at he; done) | (simp only [toPy, PyData.eqv, eqD, b2]; first | rfl | (cases a <;> simp [Bool.beq_eq_decide_eq, beq_eq_decide]) | skip)
  | .int a, e, _, he => by
    cases e <;> first | rfl | (simp [fair] at he; done) | (simp only [toPy, PyData.eqv, eqD, b2]; first | rfl | simp [beq_eq_decide] | skip)
  | .str a, e, _, he => by
    cases e <;> first | rfl | (simp [fair] at he; done) | (simp only [toPy, PyData.eqv, eqD]; first | rfl | simp [beq_eq_decide] | skip)
  | .tup a, e, ha, he => by
    cases e with
    | tup b =>
      simp only [fair] at ha he
      simp only [toPy, PyData.eqv, eqD, eqvs_toPy a b ha he]
    | ref n => simp [fair] at he
    | _ => rfl
  | .lst a, e, ha, he => by
    cases e with
    | lst b =>
      simp only [fair] at ha he
      simp only [toPy, PyData.eqv, eqD, eqvs_toPy a b ha he]
    | ref n => simp [fair] at he
    | _ => rfl
  | .ref _, _, ha, _ => by simp [fair] at ha
theorem eqvs_toPy : ∀ ds es : List D, fairs ds = true → fairs es = true → PyData.eqvAll (toPys ds) (toPys es) = eqDs ds es
  | [], [], _, _ => rfl
  | [], _ :: _, _, _ => rfl
  | _ :: _, [], _, _ => rfl
  | x :: xs, y :: ys, h, k => by
    simp only [fairs, Bool.and_eq_true] at h k
    simp only [toPys, PyData.eqvAll, eqDs, eqv_toPy x y h.1 k.1, eqvs_toPy xs ys h.2 k.2]
end
section
variable {K : Fr} {ct : Nat → Option Addr} {u : List Addr} {h : Hs} {H : Hp}
mutual
theorem RV.dp : ∀ (d : D) (v : V), fair d = true → RV K u H d v → Dp K H v (toPy d)
  | .non, _, _, r => by cases r; exact .non
  | .bl b, _, _, r => by cases r; exact .bl b
  | .int i, _, _, r => by cases r; exact .int i
  | .str s, _, _, r => by cases r; exact .str s
  | .ref _, _, f, _ => by simp [fair] at f
  | .tup ds, _, f, r => by
    cases r with
    | tup e q => exact .tup (SqT.of e) (RVs.dp ds _ (by simpa [fair] using f) q)
  | .lst ds, _, f, r => by
    cases r with
    | lst e q => exact .lst e.l (RVs.dp ds _ (by simpa [fair] using f) q)
theorem RVs.dp : ∀ (ds : List D) (vs : List V), fairs ds = true → RVs K u H ds vs → DpAll K H vs (toPys ds)
  | [], _, _, r => by cases r; exact .nil
  | d :: ds, _, f, r => by
    simp only [fairs, Bool.and_eq_true] at f
    cases r with
    | cons a b => exact .cons (RV.dp d _ f.1 a) (RVs.dp ds _ f.2 b)
end
theorem RV.dpShown {d : D} {v : V} (r : RV K u H d v) (R : HR K ct u h H) (f : fair (shown h d) = true) : Dp K H v (toPy (shown h d)) := by
  have plain : shown h d = d → Dp K H v (toPy (shown h d)) := fun e => by
    rw [e] at f ⊢
    exact RV.dp d v f r
  cases d with
  | ref n =>
    simp only [shown] at f ⊢
    cases r with
    | ref ha =>
      cases hn : h[n]? with
      | none => rw [hn] at f; simp [fair] at f
      | some o =>
        rw [hn] at f
        have z := R.ob n o _ hn ha
        cases o with
        | lst ys =>
          obtain ⟨vs, e1, rr⟩ := z
          exact .lst (SqL.of e1) (RVs.dp ys vs (by simpa [fair] using f) rr)
        | frz ys =>
          obtain ⟨vs, o, e1, rr⟩ := z
          exact .lst (.inl (.inr ⟨o, e1⟩)) (RVs.dp ys vs (by simpa [fair] using f) rr)
        | _ => simp [fair] at f
  | _ => exact plain rfl
theorem scal_of {d e : D} {x y : V} (r : RV K u H d x) (q : RV K u H e y) (h : scalD d e = true) : scal x y = true ∧ decide (x = y) = eqD d e := by
  cases r <;> cases q <;> first
    | (simp [scalD] at h; done)
    | exact ⟨rfl, by simp [eqD]⟩
theorem flat_of {d : D} {x : V} (r : RV K u H d x) (h : isFlat d = true) : flatV x = true := by
  cases r <;> first
    | rfl
    | simp [isFlat] at h
theorem flats_of : ∀ {ds : List D} {xs : List V}, RVs K u H ds xs → ds.all isFlat = true → xs.all flatV = true
  | _, _, .nil, _ => rfl
  | _, _, .cons r t, h => by
    rw [List.all_cons, Bool.and_eq_true] at h
    rw [List.all_cons, flat_of r h.1, flats_of t h.2, Bool.and_self]
theorem eq_flat {d e : D} {x y : V} (r : RV K u H d x) (q : RV K u H e y) (hd : isFlat d = true) (he : isFlat e = true) : eqV x y = eqD d e := by
  cases r <;> cases q <;> first
    | rfl
    | (simp [isFlat] at hd; done)
    | (simp [isFlat] at he; done)
    | (simp [eqV, eqD, b2, beq_eq_decide, Bool.beq_eq_decide_eq]; done)
theorem any_flat {e : D} {y : V} (q : RV K u H e y) (he : isFlat e = true) : ∀ {ds : List D} {xs : List V}, RVs K u H ds xs → ds.all isFlat = true → (xs.any fun z => eqV z y) = ds.any fun z => eqD z e
  | _, _, .nil, _ => rfl
  | _, _, .cons r t, h => by
    rw [List.all_cons, Bool.and_eq_true] at h
    rw [List.any_cons, List.any_cons, eq_flat r q h.1 he, any_flat q he t h.2]
end
section
variable {X : Cx} {ct : Nat → Option Addr}
/-- a comparison: the truth value that cmpD tells -/
def CmS (X : Cx) (ct : Nat → Option Addr) (op : CmpOp) (o : Cop) : Prop :=
  OpR X (compareOp op) fun x y H Q => ∃ u h d e b, HR X.K ct u h H ∧ RV X.K u H d x ∧ RV X.K u H e y ∧ cmpD o h d e = some b ∧ Q (.bl b) H
theorem cm_eq (hu : X.A.units + 64 < cLine) : CmS X ct .Eq .eq := by
  intro pins s σ H x y v w Q I rx ry ⟨u, h, d, e, b, R, r1, r2, hb, q⟩
  simp only [cmpD, eqv] at hb
  by_cases hs : scalD d e = true
  · rw [if_pos hs] at hb
    cases hb
    obtain ⟨h1, h2⟩ := scal_of r1 r2 hs
    exact op_eq pins s σ H x y v w Q I rx ry ⟨h1, by rw [h2]; exact q⟩
  · rw [if_neg hs] at hb
    simp only [Option.ite_none_right_eq_some, Bool.and_eq_true, decide_eq_true_eq, Option.some.injEq] at hb
    obtain ⟨⟨⟨⟨f1, f2⟩, d1⟩, d2⟩, rfl⟩ := hb
    refine op_eqD hu pins s σ H x y v w Q I rx ry ⟨_, _, r1.dpShown R f1, r2.dpShown R f2, shaped_of f1 d1, shaped_of f2 d2, ?_⟩
    rw [eqv_toPy _ _ f1 f2]
    exact q
theorem cm_ne (hu : X.A.units + 64 < cLine) : CmS X ct .NotEq .ne := by
  intro pins s σ H x y v w Q I rx ry ⟨u, h, d, e, b, R, r1, r2, hb, q⟩
  simp only [cmpD, eqv, Option.map_eq_some_iff] at hb
  obtain ⟨c, hb, rfl⟩ := hb
  by_cases hs : scalD d e = true
  · rw [if_pos hs] at hb
    cases hb
    obtain ⟨h1, h2⟩ := scal_of r1 r2 hs
    exact op_ne pins s σ H x y v w Q I rx ry ⟨h1, by rw [h2]; exact q⟩
  · rw [if_neg hs] at hb
    simp only [Option.ite_none_right_eq_some, Bool.and_eq_true, decide_eq_true_eq, Option.some.injEq] at hb
    obtain ⟨⟨⟨⟨f1, f2⟩, d1⟩, d2⟩, rfl⟩ := hb
    refine op_neD hu pins s σ H x y v w Q I rx ry ⟨_, _, r1.dpShown R f1, r2.dpShown R f2, shaped_of f1 d1, shaped_of f2 d2, ?_⟩
    rw [eqv_toPy _ _ f1 f2]
    exact q
theorem cm_lt : CmS X ct .Lt .lt := by
  intro pins s σ H x y v w Q I rx ry ⟨u, h, d, e, b, R, r1, r2, hb, q⟩
  cases r1 <;> cases r2 <;> first
    | (simp [cmpD] at hb; done)
    | (cases hb; exact op_lt pins s σ H _ _ v w Q I rx ry ⟨_, _, rfl, rfl, q⟩)
theorem cm_le : CmS X ct .LtE .le := by
  intro pins s σ H x y v w Q I rx ry ⟨u, h, d, e, b, R, r1, r2, hb, q⟩
  cases r1 <;> cases r2 <;> first
    | (simp [cmpD] at hb; done)
    | (cases hb; exact op_le pins s σ H _ _ v w Q I rx ry ⟨_, _, rfl, rfl, q⟩)
theorem cm_gt : CmS X ct .Gt .gt := by
  intro pins s σ H x y v w Q I rx ry ⟨u, h, d, e, b, R, r1, r2, hb, q⟩
  cases r1 <;> cases r2 <;> first
    | (simp [cmpD] at hb; done)
    | (cases hb; exact op_gt pins s σ H _ _ v w Q I rx ry ⟨_, _, rfl, rfl, q⟩)
theorem cm_ge : CmS X ct .GtE .ge := by
  intro pins s σ H x y v w Q I rx ry ⟨u, h, d, e, b, R, r1, r2, hb, q⟩
  cases r1 <;> cases r2 <;> first
    | (simp [cmpD] at hb; done)
    | (cases hb; exact op_ge pins s σ H _ _ v w Q I rx ry ⟨_, _, rfl, rfl, q⟩)
theorem non_of {K : Fr} {u : List Addr} {H : Hp} {d : D} {x : V} (r : RV K u H d x) : decide (x = .non) = decide (d = .non) := by
  cases r <;> simp
theorem cm_is : CmS X ct .Is .isn := by
  intro pins s σ H x y v w Q I rx ry ⟨u, h, d, e, b, R, r1, r2, hb, q⟩
  cases r2 <;> first
    | (simp [cmpD] at hb; done)
    | (cases hb; exact op_isN pins s σ H _ _ v w Q I rx ry ⟨rfl, by rw [non_of r1]; exact q⟩)
theorem cm_isnot : CmS X ct .IsNot .isnn := by
  intro pins s σ H x y v w Q I rx ry ⟨u, h, d, e, b, R, r1, r2, hb, q⟩
  cases r2 <;> first
    | (simp [cmpD] at hb; done)
    | (cases hb; exact op_notN pins s σ H _ _ v w Q I rx ry ⟨rfl, by rw [non_of r1]; exact q⟩)
theorem keyD_of {K : Fr} {u : List Addr} {H : Hp} {d : D} {x : V} {k : Key} (r : RV K u H d x) (e : keyD d = some k) : x = kV k := by
  cases r <;> first
    | (simp [keyD] at e; done)
    | (cases e; rfl)
theorem keysD_of {K : Fr} {u : List Addr} {H : Hp} : ∀ {ds : List D} {xs : List V} {ks : List Key}, RVs K u H ds xs → keysD ds = some ks → xs = ks.map kV
  | _, _, ks, .nil, e => by cases e; rfl
  | d :: ds, _, ks, .cons r t, e => by
    simp only [keysD] at e
    cases e1 : keyD d with
    | none => rw [e1] at e; cases e
    | some k =>
      cases e2 : keysD ds with
      | none => rw [e1, e2] at e; cases e
      | some ks' =>
        rw [e1, e2] at e
        cases e
        rw [keyD_of r e1, keysD_of t e2, List.map_cons]
theorem any_get {κ : Type} [DecidableEq κ] (k : κ) : ∀ kvs : List (κ × D), (kvs.any fun p => decide (p.1 = k)) = (getKD kvs k).isSome
  | [] => rfl
  | p :: r => by
    unfold getKD
    rw [List.any_cons, List.find?_cons]
    by_cases e : p.1 = k
    · simp [e]
    · simp only [e, decide_false, Bool.false_or]
      exact any_get k r
/-- what the dict with a number holds at a key -/
theorem dget_of {K : Fr} {u : List Addr} {h : Hs} {H : Hp} {n : Nat} {a : Addr} {kvs : List (Key × D)} {d : D} {x : V} {k : Key} (R : HR K ct u h H) (hn : h[n]? = some (.dct kvs)) (ha : u[n]? = some a) (r : RV K u H d x) (e : keyD d = some k) :
    (getKD kvs k = none ∧ DGet H a x none) ∨ ∃ w v, getKD kvs k = some w ∧ DGet H a x (some v) ∧ RV K u H w v := by
  obtain ⟨vs, e1, rr⟩ := R.ob n _ a hn ha
  have ex := keyD_of r e
  have g := DGet.k (k := k) e1
  rw [← ex] at g
  rcases rr.get k with ⟨h1, h2⟩ | ⟨w, v, h1, h2, h3⟩
  · rw [h2] at g
    exact .inl ⟨h1, g⟩
  · rw [h2] at g
    exact .inr ⟨w, v, h1, g, h3⟩
theorem dgetT_of {K : Fr} {u : List Addr} {h : Hs} {H : Hp} {n : Nat} {a : Addr} {kvs : List (List Key × D)} {ds : List D} {x : V} {k : List Key} (R : HR K ct u h H) (hn : h[n]? = some (.dtp kvs)) (ha : u[n]? = some a) (r : RV K u H (.tup ds) x) (e : keysD ds = some k) :
    (getKD kvs k = none ∧ DGet H a x none) ∨ ∃ w v, getKD kvs k = some w ∧ DGet H a x (some v) ∧ RV K u H w v := by
  obtain ⟨vs, e1, rr⟩ := R.ob n _ a hn ha
  cases r with
  | tup eb q =>
    rw [keysD_of q e] at eb
    have g := DGet.t (k := k) e1 eb
    rcases rr.get k with ⟨h1, h2⟩ | ⟨w, v, h1, h2, h3⟩
    · rw [h2] at g
      exact .inl ⟨h1, g⟩
    · rw [h2] at g
      exact .inr ⟨w, v, h1, g, h3⟩
/-- in, by its ways -/
theorem in_ways {d e : D} {x y : V} {H : Hp} {u : List Addr} {h : Hs} {b : Bool} (R : HR X.K ct u h H) (r1 : RV X.K u H d x) (r2 : RV X.K u H e y) (hb : inD h d e = some b) :
    (∃ (c : Nat) (z : Str), x = .str ⟨#[c]⟩ ∧ y = .str z ∧ b = decide (c ∈ z.cps.toList)) ∨ (∃ p xs, y = .ref p ∧ (SqL X.K H p xs ∨ SqT X.K H p xs) ∧ flatV x = true ∧ xs.all flatV = true ∧ b = inV x xs) ∨
      ∃ a o, y = .ref a ∧ DGet H a x o ∧ b = o.isSome := by
  have seqs : ∀ {p : Addr} {ds : List D} {xs : List V}, y = .ref p → (SqL X.K H p xs ∨ SqT X.K H p xs) → RVs X.K u H ds xs → (if isFlat d && ds.all isFlat then some (ds.any fun z => eqD z d) else none) = some b →
      ∃ p xs, y = .ref p ∧ (SqL X.K H p xs ∨ SqT X.K H p xs) ∧ flatV x = true ∧ xs.all flatV = true ∧ b = inV x xs := fun {p ds xs} ey hs rr hh => by
    simp only [Option.ite_none_right_eq_some, Bool.and_eq_true, Option.some.injEq] at hh
    obtain ⟨⟨f1, f2⟩, rfl⟩ := hh
    exact ⟨p, xs, ey, hs, flat_of r1 f1, flats_of rr f2, (any_flat r1 f1 rr f2).symm⟩
  cases r2 with
  | str z =>
    cases r1 with
    | str t =>
      simp only [inD, hasSign] at hb
      split at hb
      · rename_i c hc
        cases hb
        refine .inl ⟨c, z, ?_, rfl, rfl⟩
        obtain ⟨cs⟩ := t
        have : cs.toList = [c] := hc
        rw [show cs = #[c] from Array.toList_inj.mp this]
      · cases hb
    | _ => simp [inD] at hb
  | tup e1 rr => exact .inr (.inl (seqs rfl (.inr (SqT.of e1)) rr (by simpa [inD] using hb)))
  | lst e1 rr => exact .inr (.inl (seqs rfl (.inl e1.l) rr (by simpa [inD] using hb)))
  | @ref n a ha =>
    simp only [inD] at hb
    cases hn : h[n]? with
    | none => rw [hn] at hb; cases hb
    | some o =>
      rw [hn] at hb
      have z := R.ob n o _ hn ha
      cases o with
      | lst ys =>
        obtain ⟨vs, e1, rr⟩ := z
        exact .inr (.inl (seqs rfl (.inl (SqL.of e1)) rr hb))
      | frz ys =>
        obtain ⟨vs, o, e1, rr⟩ := z
        exact .inr (.inl (seqs rfl (.inl (.inl (.inr ⟨o, e1⟩))) rr hb))
      | dct kvs =>
        cases hk : keyD d with
        | none => rw [hk] at hb; cases hb
        | some k =>
          rw [hk] at hb
          simp only [Option.some.injEq] at hb
          rw [any_get] at hb
          subst hb
          rcases dget_of R hn ha r1 hk with ⟨h1, h2⟩ | ⟨w, v, h1, h2, _⟩
          · exact .inr (.inr ⟨a, none, rfl, h2, by rw [h1]; rfl⟩)
          · exact .inr (.inr ⟨a, some v, rfl, h2, by rw [h1]; rfl⟩)
      | dtp kvs =>
        cases d with
        | tup ds =>
          simp only at hb
          cases hk : keysD ds with
          | none => rw [hk] at hb; cases hb
          | some k =>
            rw [hk] at hb
            simp only [Option.some.injEq] at hb
            rw [any_get] at hb
            subst hb
            rcases dgetT_of R hn ha r1 hk with ⟨h1, h2⟩ | ⟨w, v, h1, h2, _⟩
            · exact .inr (.inr ⟨a, none, rfl, h2, by rw [h1]; rfl⟩)
            · exact .inr (.inr ⟨a, some v, rfl, h2, by rw [h1]; rfl⟩)
        | _ => cases hb
      | ins c fs => cases hb
  | _ => simp [inD] at hb
theorem cm_in (hu : X.A.units + 1 < cLine) : CmS X ct .In .inn := by
  intro pins s σ H x y v w Q I rx ry ⟨u, h, d, e, b, R, r1, r2, hb, q⟩
  rcases in_ways R r1 r2 hb with ⟨c, z, e1, e2, e3⟩ | ⟨p, xs, e1, e2, e3, e4, e5⟩ | ⟨a, o, e1, e2, e3⟩
  · subst e3
    exact op_in_sign pins s σ H x y v w Q I rx ry ⟨c, z, e1, e2, q⟩
  · subst e5
    exact op_in_seq pins s σ H x y v w Q I rx ry ⟨p, xs, e1, e2, e3, e4, q⟩
  · subst e1 e3
    cases ry
    exact d_in hu I e2 rx fun s' I' => ⟨.bl _, H, I', rfl, q⟩
theorem cm_nin (hu : X.A.units + 1 < cLine) : CmS X ct .NotIn .nin := by
  intro pins s σ H x y v w Q I rx ry ⟨u, h, d, e, b, R, r1, r2, hb, q⟩
  simp only [cmpD, Option.map_eq_some_iff] at hb
  obtain ⟨c, hb, rfl⟩ := hb
  rcases in_ways R r1 r2 hb with ⟨c, z, e1, e2, e3⟩ | ⟨p, xs, e1, e2, e3, e4, e5⟩ | ⟨a, o, e1, e2, e3⟩
  · subst e3
    exact op_notIn_sign pins s σ H x y v w Q I rx ry ⟨c, z, e1, e2, q⟩
  · subst e5
    exact op_notIn_seq pins s σ H x y v w Q I rx ry ⟨p, xs, e1, e2, e3, e4, q⟩
  · subst e1 e3
    cases ry
    exact d_notIn hu I e2 rx fun s' I' => ⟨.bl _, H, I', rfl, q⟩
/-- truth -/
theorem tr_ok : TruR X (fun x H Q => ∃ u h d b, HR X.K ct u h H ∧ RV X.K u H d x ∧ truth h d = some b ∧ Q b H) := by
  intro pins s σ H x v Q I rx ⟨u, h, d, b, R, r, hb, q⟩
  have other : ∀ k, TruV X.K x H k → Q k H → wpAny (model X.prog X.w) X.A (truthy v) (TP X pins σ Q) X.xe s := fun k hk q => tru_ok pins s σ H x v Q I rx ⟨k, hk, q⟩
  have emp : ∀ {ds : List D} {xs : List V}, RVs X.K u H ds xs → (!xs.isEmpty) = !ds.isEmpty := fun {ds xs} rr => by cases rr <;> rfl
  have empK : ∀ {κ : Type} {ds : List (κ × D)} {xs : List (κ × V)}, RKs X.K u H ds xs → (!xs.isEmpty) = !ds.isEmpty := fun {κ ds xs} rr => by cases rr <;> rfl
  cases r with
  | non => cases hb; exact other _ rfl q
  | bl c => cases hb; exact other _ rfl q
  | int i => cases hb; exact other _ rfl q
  | str z =>
    simp only [truth, Option.ite_none_right_eq_some, Option.some.injEq] at hb
    obtain ⟨hz, rfl⟩ := hb
    exact other _ ⟨by rw [← lim_eq]; exact hz, rfl⟩ q
  | tup e rr => cases hb; exact other _ (.inr (.inl ⟨_, SqT.of e, (emp rr).symm⟩)) q
  | lst e rr => cases hb; exact other _ (.inl ⟨_, e.l, (emp rr).symm⟩) q
  | @ref n a ha =>
    simp only [truth] at hb
    cases hn : h[n]? with
    | none => rw [hn] at hb; cases hb
    | some o =>
      rw [hn] at hb
      have z := R.ob n o _ hn ha
      cases o with
      | lst ys =>
        obtain ⟨vs, e1, rr⟩ := z
        cases hb
        exact other _ (.inl ⟨_, SqL.of e1, (emp rr).symm⟩) q
      | frz ys =>
        obtain ⟨vs, o, e1, rr⟩ := z
        cases hb
        exact other _ (.inl ⟨_, .inl (.inr ⟨o, e1⟩), (emp rr).symm⟩) q
      | dct kvs =>
        obtain ⟨vs, e1, rr⟩ := z
        cases hb
        exact other _ (.inr (.inr ⟨_, e1, (empK rr).symm⟩)) q
      | _ => cases hb
/-- xs[i], d[k] -/
theorem ix_ok (hu : X.A.units + 1 < cLine) : IxR X fun x y H Q => ∃ u h d e, HR X.K ct u h H ∧ RV X.K u H d x ∧ RV X.K u H e y ∧ PR X.K ct u H (idxD d e h) Q := by
  intro value slice pins s σ H x y v w Q I rx ry ⟨u, h, d, e, R, r1, r2, q⟩ hs
  have seqs : ∀ {p : Addr} {ds : List D} {xs : List V}, x = .ref p → (SqL X.K H p xs ∨ SqT X.K H p xs) → RVs X.K u H ds xs → PR X.K ct u H (atD ds e h) Q → wpAny (model X.prog X.w) X.A (subscriptTail value slice v w) (EP X pins σ Q) X.xe s := fun {p ds xs} ex hq rr q => by
    cases r2 with
    | int i =>
      obtain ⟨d', hd, q'⟩ := PR.opt q
      unfold atI at hd
      cases hi : ixN ds.length i with
      | none => rw [hi] at hd; cases hd
      | some j =>
        rw [hi] at hd
        obtain ⟨v', hv, rv⟩ := rr.get hd
        have ha : atI xs i = some v' := by
          unfold atI
          rw [← rr.length, hi]
          exact hv
        subst ex
        rcases hq with hq | hq
        · exact ix_list value slice pins s σ H _ _ v w Q I rx ry ⟨p, xs, i, v', rfl, rfl, hq, ha, q'.here R rv⟩ hs
        · exact ix_tup value slice pins s σ H _ _ v w Q I rx ry ⟨p, xs, i, v', rfl, rfl, hq, ha, q'.here R rv⟩ hs
    | _ => exact q.elim
  have dict : ∀ {a : Addr} {w' : D} {v' : V}, x = .ref a → DGet H a y (some v') → RV X.K u H w' v' → PR X.K ct u H (.ok (.val w') h) Q → wpAny (model X.prog X.w) X.A (subscriptTail value slice v w) (EP X pins σ Q) X.xe s := fun {a w' v'} ex g rv q => by
    subst ex
    cases rx
    refine tail_any (dict_typeIs I g) PySem.F.slot_dict_getitem.lookup ?_ hs
    exact d_getItem hu I g ry fun w2 s' I' rw' => ⟨v', H, I', rw', q.here R rv⟩
  cases r1 with
  | str z =>
    simp only [idxD] at q
    cases r2 with
    | int i =>
      simp only at q
      split at q
      · rename_i hz
        obtain ⟨d', hd, q'⟩ := PR.opt q
        obtain ⟨c, hc, rfl⟩ := Option.map_eq_some_iff.mp hd
        exact ix_str value slice pins s σ H _ _ v w Q I rx ry ⟨z, i, c, rfl, rfl, by rw [← lim_eq]; exact hz, hc, q'.here R (.str _)⟩ hs
      · exact q.elim
    | _ => exact q.elim
  | tup e1 rr => exact seqs rfl (.inr (SqT.of e1)) rr q
  | lst e1 rr => exact seqs rfl (.inl e1.l) rr q
  | @ref n a ha =>
    simp only [idxD] at q
    cases hn : h[n]? with
    | none => rw [hn] at q; exact q.elim
    | some o =>
      rw [hn] at q
      have z := R.ob n o _ hn ha
      cases o with
      | lst ys =>
        obtain ⟨vs, e1, rr⟩ := z
        exact seqs rfl (.inl (SqL.of e1)) rr q
      | frz ys =>
        obtain ⟨vs, o, e1, rr⟩ := z
        exact seqs rfl (.inl (.inl (.inr ⟨o, e1⟩))) rr q
      | dct kvs =>
        simp only at q
        cases hk : keyD e with
        | none => rw [hk] at q; exact q.elim
        | some k =>
          rw [hk] at q
          obtain ⟨d', hd, q'⟩ := PR.opt q
          rcases dget_of R hn ha r2 hk with ⟨h1, _⟩ | ⟨w', v', h1, h2, h3⟩
          · rw [h1] at hd; cases hd
          · rw [h1] at hd; cases hd
            exact dict rfl h2 h3 q'
      | dtp kvs =>
        cases e with
        | tup ds =>
          simp only at q
          cases hk : keysD ds with
          | none => rw [hk] at q; exact q.elim
          | some k =>
            rw [hk] at q
            obtain ⟨d', hd, q'⟩ := PR.opt q
            rcases dgetT_of R hn ha r2 hk with ⟨h1, _⟩ | ⟨w', v', h1, h2, h3⟩
            · rw [h1] at hd; cases hd
            · rw [h1] at hd; cases hd
              exact dict rfl h2 h3 q'
        | _ => exact q.elim
      | ins c fs => exact q.elim
  | _ => exact q.elim
/-- a slice -/
theorem sl_ok : SlR X fun x lo hi H Q => ∃ u h d, HR X.K ct u h H ∧ RV X.K u H d x ∧ PR X.K ct u H (slD d lo hi h) Q := by
  intro pins s σ H x v vl vu lo hi sl Q I rx hs pl pu ⟨u, h, d, R, r, q⟩
  have cut : ∀ {ds : List D} {xs : List V}, RVs X.K u H ds xs → RVs X.K u H (cutD ds lo hi) (cutV xs lo hi) := fun {ds xs} rr => by
    unfold cutD cutV
    rw [rr.length]
    exact (rr.drop _).take _
  have list : ∀ {p : Addr} {ds : List D} {xs : List V}, x = .ref p → SqL X.K H p xs → RVs X.K u H ds xs → PR X.K ct u H (.ok (.new (cutD ds lo hi)) h) Q → _ := fun {p ds xs} ex hq rr q => by
    subst ex
    exact sl_list pins s σ H _ v vl vu lo hi sl Q I rx hs pl pu ⟨p, xs, rfl, hq, fun p' hp' => q.newL R (cut rr) hp'⟩
  cases r with
  | tup e1 rr =>
    refine sl_tupA pins s σ H _ v vl vu lo hi sl Q I rx hs pl pu ⟨_, _, rfl, SqT.of e1, fun hw => ?_, fun _ p hp => q.newT R (cut rr) hp⟩
    refine q.here R (.tup e1 ?_)
    have e2 := cut rr
    unfold cutV at e2
    rw [hw.1, hw.2] at e2
    simpa using e2
  | str z =>
    simp only [slD] at q
    split at q
    · rename_i hz
      exact sl_str pins s σ H _ v vl vu lo hi sl Q I rx hs pl pu ⟨z, rfl, by rw [← lim_eq]; exact hz, q.here R (.str _)⟩
    · exact q.elim
  | lst e1 rr => exact list rfl e1.l rr (by simpa [slD, asList] using q)
  | @ref n a ha =>
    simp only [slD, asList] at q
    cases hn : h[n]? with
    | none => rw [hn] at q; exact q.elim
    | some o =>
      rw [hn] at q
      have z := R.ob n o _ hn ha
      cases o with
      | lst ys =>
        obtain ⟨vs, e1, rr⟩ := z
        exact list rfl (SqL.of e1) rr q
      | frz ys =>
        obtain ⟨vs, o, e1, rr⟩ := z
        exact list rfl (.inl (.inr ⟨o, e1⟩)) rr q
      | _ => exact q.elim
  | _ => exact q.elim
end
end PX

/-! PXe: built-in functions and methods, stores. -/
namespace PX
open PySem PySem.Spec PyProof.Rows L2
section
variable {K : Fr} {ct : Nat → Option Addr} {u : List Addr} {h : Hs} {H : Hp}
theorem RVs.one {d : D} {xs : List V} (r : RVs K u H [d] xs) : ∃ x, xs = [x] ∧ RV K u H d x := by
  cases r with
  | cons a t =>
    cases t
    exact ⟨_, rfl, a⟩
theorem RVs.two {d e : D} {xs : List V} (r : RVs K u H [d, e] xs) : ∃ x y, xs = [x, y] ∧ RV K u H d x ∧ RV K u H e y := by
  cases r with
  | cons a t =>
    cases t with
    | cons b t =>
      cases t
      exact ⟨_, _, rfl, a, b⟩
/-- a list that is read as ints, bools, texts -/
theorem RV.listOf {α : Type} {f : List D → Option (List α)} {d : D} {x : V} {ns : List α} (r : RV K u H d x) (R : HR K ct u h H) (e : (asList h d).bind f = some ns) : ∃ a vs xs, x = .ref a ∧ Lk K H a vs ∧ RVs K u H xs vs ∧ f xs = some ns := by
  obtain ⟨xs, e1, e2⟩ := Option.bind_eq_some_iff.mp e
  obtain ⟨a, vs, h1, h2, h3⟩ := r.list R e1
  exact ⟨a, vs, xs, h1, h2, h3, e2⟩
end
theorem sortI_perm (ns : List Int) : (sortI ns).Perm ns := List.mergeSort_perm ns _
theorem sortI_sorted (ns : List Int) : (sortI ns).Pairwise (· ≤ ·) := by
  have q := List.pairwise_mergeSort (le := fun a b : Int => decide (a ≤ b)) (fun a b c h1 h2 => by simp at h1 h2 ⊢; omega) (fun a b => by simp; omega) ns
  exact q.imp fun h => by simpa using h
theorem sorted_unique : ∀ {xs ys : List Int}, xs.Perm ys → xs.Pairwise (· ≤ ·) → ys.Pairwise (· ≤ ·) → xs = ys := fun {xs ys} p h1 h2 =>
  p.eq_of_pairwise (fun a b _ _ q r => by omega) h1 h2
theorem foldl_max_mem : ∀ (ns : List Int) (n : Int), ns.foldl max n ∈ n :: ns ∧ ∀ y ∈ n :: ns, y ≤ ns.foldl max n
  | [], n => ⟨by simp, fun y hy => by simp at hy; subst hy; exact Int.le_refl _⟩
  | m :: ns, n => by
    obtain ⟨h1, h2⟩ := foldl_max_mem ns (max n m)
    rw [List.foldl_cons]
    refine ⟨?_, fun y hy => ?_⟩
    · rcases List.mem_cons.mp h1 with e | e
      · rw [e]
        rcases Int.le_total n m with q | q
        · rw [Int.max_eq_right q]; simp
        · rw [Int.max_eq_left q]; simp
      · simp [e]
    · have z := h2 (max n m) (by simp)
      rcases List.mem_cons.mp hy with e | hy
      · have := Int.le_max_left n m; omega
      · rcases List.mem_cons.mp hy with e | hy
        · have := Int.le_max_right n m; omega
        · exact h2 y (by simp [hy])
theorem foldl_min_mem : ∀ (ns : List Int) (n : Int), ns.foldl min n ∈ n :: ns ∧ ∀ y ∈ n :: ns, ns.foldl min n ≤ y
  | [], n => ⟨by simp, fun y hy => by simp at hy; subst hy; exact Int.le_refl _⟩
  | m :: ns, n => by
    obtain ⟨h1, h2⟩ := foldl_min_mem ns (min n m)
    rw [List.foldl_cons]
    refine ⟨?_, fun y hy => ?_⟩
    · rcases List.mem_cons.mp h1 with e | e
      · rw [e]
        rcases Int.le_total n m with q | q
        · rw [Int.min_eq_left q]; simp
        · rw [Int.min_eq_right q]; simp
      · simp [e]
    · have z := h2 (min n m) (by simp)
      rcases List.mem_cons.mp hy with e | hy
      · have := Int.min_le_left n m; omega
      · rcases List.mem_cons.mp hy with e | hy
        · have := Int.min_le_right n m; omega
        · exact h2 y (by simp [hy])
section
variable {X : Cx} {ct : Nat → Option Addr}
/-- a built-in, called with values -/
def CaS (X : Cx) (ct : Nat → Option Addr) (f : Value) (b : Bi) : Prop :=
  CallR X f fun xs H Q => ∃ u h ds, HR X.K ct u h H ∧ RVs X.K u H ds xs ∧ PR X.K ct u H (biD b ds h) Q
theorem ca_len : CaS X ct (.builtin "len") .len := by
  intro pins s σ H xs us Q I r ⟨u, h, ds, R, rr, q⟩
  match ds, rr, q with
  | [d], rr, q =>
    obtain ⟨x, rfl, r1⟩ := rr.one
    simp only [biD] at q
    cases hl : lenD h d with
    | none => rw [hl] at q; exact q.elim
    | some n =>
      rw [hl] at q
      have fin : Q (.int (n : Int)) H := q.here R (.int _)
      cases r1 with
      | str z =>
        simp only [lenD, Option.ite_none_right_eq_some, Option.some.injEq] at hl
        obtain ⟨hz, rfl⟩ := hl
        exact call_len_str pins s σ H _ us Q I r ⟨z, rfl, by rw [← lim_eq]; exact hz, fin⟩
      | tup e r2 =>
        cases hl
        exact call_len_seq pins s σ H _ us Q I r ⟨_, _, rfl, .inr (SqT.of e), by rw [← r2.length]; exact fin⟩
      | lst e r2 =>
        cases hl
        exact call_len_seq pins s σ H _ us Q I r ⟨_, _, rfl, .inl e.l, by rw [← r2.length]; exact fin⟩
      | @ref n a ha =>
        simp only [lenD] at hl
        cases hn : h[n]? with
        | none => rw [hn] at hl; cases hl
        | some o =>
          rw [hn] at hl
          have z := R.ob n o _ hn ha
          cases o with
          | lst ys =>
            obtain ⟨vs, e1, rr⟩ := z
            cases hl
            exact call_len_seq pins s σ H _ us Q I r ⟨_, _, rfl, .inl (SqL.of e1), by rw [← rr.length]; exact fin⟩
          | frz ys =>
            obtain ⟨vs, o, e1, rr⟩ := z
            cases hl
            exact call_len_seq pins s σ H _ us Q I r ⟨_, _, rfl, .inl (.inl (.inr ⟨o, e1⟩)), by rw [← rr.length]; exact fin⟩
          | dct kvs =>
            obtain ⟨vs, e1, rr⟩ := z
            cases hl
            obtain ⟨w, rfl, rw'⟩ := vals1 r
            cases rw'
            exact d_len I (.inl e1) fun t s' I' => ⟨.int _, H, I', ⟨t, rfl⟩, by rw [← rr.length]; exact fin⟩
          | _ => cases hl
      | _ => cases hl
  | [], _, q => exact q.elim
  | _ :: _ :: _, _, q => exact q.elim
theorem ca_abs : CaS X ct (.builtin "abs") .abs := by
  intro pins s σ H xs us Q I r ⟨u, h, ds, R, rr, q⟩
  match ds, rr, q with
  | [d], rr, q =>
    obtain ⟨x, rfl, r1⟩ := rr.one
    cases r1 with
    | int i =>
      refine call_abs pins s σ H _ us Q I r ⟨i, rfl, ?_⟩
      have fin : Q (.int (i.natAbs : Int)) H := q.here R (.int _)
      have e : (if i < 0 then -i else i) = (i.natAbs : Int) := by split <;> omega
      rw [e]
      exact fin
    | _ => exact q.elim
  | [], _, q => exact q.elim
  | d :: _ :: _, _, q => cases d <;> exact q.elim
theorem ca_int : CaS X ct (.type "int") .int := by
  intro pins s σ H xs us Q I r ⟨u, h, ds, R, rr, q⟩
  match ds, rr, q with
  | [d], rr, q =>
    obtain ⟨x, rfl, r1⟩ := rr.one
    cases r1 with
    | int i => exact call_int1 pins s σ H _ us Q I r (.inl ⟨i, rfl, q.here R (.int _)⟩)
    | bl i =>
      refine call_int1 pins s σ H _ us Q I r (.inr ⟨i, rfl, ?_⟩)
      have fin : Q (.int (b2 i)) H := q.here R (.int _)
      exact fin
    | _ => exact q.elim
  | [], _, q => exact q.elim
  | d :: _ :: _, _, q => cases d <;> exact q.elim
theorem ca_str : CaS X ct (.type "str") .str := by
  intro pins s σ H xs us Q I r ⟨u, h, ds, R, rr, q⟩
  match ds, rr, q with
  | [d], rr, q =>
    obtain ⟨x, rfl, r1⟩ := rr.one
    cases r1 with
    | int i =>
      simp only [biD] at q
      split at q
      · rename_i hz
        exact call_str_int pins s σ H _ us Q I r ⟨i, rfl, hz, q.here R (.str _)⟩
      · exact q.elim
    | str z => exact SkE.call_str_str pins s σ H _ us Q I r ⟨z, rfl, q.here R (.str _)⟩
    | _ => exact q.elim
  | [], _, q => exact q.elim
  | d :: _ :: _, _, q => cases d <;> exact q.elim
theorem ca_all (hc : X.calm = true) : CaS X ct (.builtin "all") .all := by
  intro pins s σ H xs us Q I r ⟨u, h, ds, R, rr, q⟩
  match ds, rr, q with
  | [d], rr, q =>
    obtain ⟨x, rfl, r1⟩ := rr.one
    simp only [biD] at q
    cases e : (asList h d).bind boolsD with
    | none => rw [e] at q; exact q.elim
    | some bs =>
      rw [e] at q
      obtain ⟨a, vs, zs, rfl, h1, h2, h3⟩ := r1.listOf R e
      have e2 := h2.bools h3
      subst e2
      exact cr_all hc pins s σ H _ us Q I r ⟨a, bs, rfl, h1.l, q.here R (.bl _)⟩
  | [], _, q => exact q.elim
  | d :: _ :: _, _, q => exact q.elim
theorem ca_any (hc : X.calm = true) : CaS X ct (.builtin "any") .any := by
  intro pins s σ H xs us Q I r ⟨u, h, ds, R, rr, q⟩
  match ds, rr, q with
  | [d], rr, q =>
    obtain ⟨x, rfl, r1⟩ := rr.one
    simp only [biD] at q
    cases e : (asList h d).bind boolsD with
    | none => rw [e] at q; exact q.elim
    | some bs =>
      rw [e] at q
      obtain ⟨a, vs, zs, rfl, h1, h2, h3⟩ := r1.listOf R e
      have e2 := h2.bools h3
      subst e2
      exact cr_any hc pins s σ H _ us Q I r ⟨a, bs, rfl, h1.l, q.here R (.bl _)⟩
  | [], _, q => exact q.elim
  | d :: _ :: _, _, q => exact q.elim
theorem ca_sum (hc : X.calm = true) : CaS X ct (.builtin "sum") .sum := by
  intro pins s σ H xs us Q I r ⟨u, h, ds, R, rr, q⟩
  match ds, rr, q with
  | [d], rr, q =>
    obtain ⟨x, rfl, r1⟩ := rr.one
    simp only [biD] at q
    cases e : (asList h d).bind intsD with
    | none => rw [e] at q; exact q.elim
    | some bs =>
      rw [e] at q
      obtain ⟨a, vs, zs, rfl, h1, h2, h3⟩ := r1.listOf R e
      have e2 := h2.ints h3
      subst e2
      exact cr_sum hc pins s σ H _ us Q I r ⟨a, bs, rfl, h1.l, q.here R (.int _)⟩
  | [], _, q => exact q.elim
  | d :: _ :: _, _, q => exact q.elim
theorem ca_max1 (hc : X.calm = true) : CaS X ct (.builtin "max") .max1 := by
  intro pins s σ H xs us Q I r ⟨u, h, ds, R, rr, q⟩
  match ds, rr, q with
  | [d], rr, q =>
    obtain ⟨x, rfl, r1⟩ := rr.one
    simp only [biD] at q
    cases e : (asList h d).bind intsD with
    | none => rw [e] at q; exact q.elim
    | some bs =>
      rw [e] at q
      obtain ⟨a, vs, zs, rfl, h1, h2, h3⟩ := r1.listOf R e
      have e2 := h2.ints h3
      subst e2
      obtain ⟨d', hd, q'⟩ := PR.opt q
      cases bs with
      | nil => cases hd
      | cons n ns =>
        cases hd
        refine cr_max hc pins s σ H _ us Q I r ⟨a, _, rfl, h1.l, by simp, fun m m1 m2 => ?_⟩
        obtain ⟨z1, z2⟩ := foldl_max_mem ns n
        have e3 : m = ns.foldl max n := Int.le_antisymm (z2 m m1) (m2 _ z1)
        rw [e3]
        exact q'.here R (.int _)
  | [], _, q => exact q.elim
  | d :: _ :: _, _, q => exact q.elim
theorem ca_min1 (hc : X.calm = true) : CaS X ct (.builtin "min") .min1 := by
  intro pins s σ H xs us Q I r ⟨u, h, ds, R, rr, q⟩
  match ds, rr, q with
  | [d], rr, q =>
    obtain ⟨x, rfl, r1⟩ := rr.one
    simp only [biD] at q
    cases e : (asList h d).bind intsD with
    | none => rw [e] at q; exact q.elim
    | some bs =>
      rw [e] at q
      obtain ⟨a, vs, zs, rfl, h1, h2, h3⟩ := r1.listOf R e
      have e2 := h2.ints h3
      subst e2
      obtain ⟨d', hd, q'⟩ := PR.opt q
      cases bs with
      | nil => cases hd
      | cons n ns =>
        cases hd
        refine cr_min hc pins s σ H _ us Q I r ⟨a, _, rfl, h1.l, by simp, fun m m1 m2 => ?_⟩
        obtain ⟨z1, z2⟩ := foldl_min_mem ns n
        have e3 : m = ns.foldl min n := Int.le_antisymm (m2 _ z1) (z2 m m1)
        rw [e3]
        exact q'.here R (.int _)
  | [], _, q => exact q.elim
  | d :: _ :: _, _, q => exact q.elim
theorem ca_max2 (hc : X.calm = true) : CaS X ct (.builtin "max") .max2 := by
  intro pins s σ H xs us Q I r ⟨u, h, ds, R, rr, q⟩
  match ds, rr, q with
  | [d, e], rr, q =>
    obtain ⟨x, y, rfl, r1, r2⟩ := rr.two
    cases r1 with
    | int i =>
      cases r2 with
      | int j =>
        refine call_max2 hc pins s σ H _ us Q I r ⟨i, j, rfl, ?_⟩
        have fin : Q (.int (max i j)) H := q.here R (.int _)
        have e : (if j > i then j else i) = max i j := by split <;> omega
        rw [e]
        exact fin
      | _ => exact q.elim
    | _ => exact q.elim
  | [], _, q => exact q.elim
  | [d], _, q => cases d <;> exact q.elim
  | d :: e :: _ :: _, _, q => cases d <;> cases e <;> exact q.elim
theorem ca_min2 (hc : X.calm = true) : CaS X ct (.builtin "min") .min2 := by
  intro pins s σ H xs us Q I r ⟨u, h, ds, R, rr, q⟩
  match ds, rr, q with
  | [d, e], rr, q =>
    obtain ⟨x, y, rfl, r1, r2⟩ := rr.two
    cases r1 with
    | int i =>
      cases r2 with
      | int j =>
        refine call_min2 hc pins s σ H _ us Q I r ⟨i, j, rfl, ?_⟩
        have fin : Q (.int (min i j)) H := q.here R (.int _)
        have e : (if j < i then j else i) = min i j := by split <;> omega
        rw [e]
        exact fin
      | _ => exact q.elim
    | _ => exact q.elim
  | [], _, q => exact q.elim
  | [d], _, q => cases d <;> exact q.elim
  | d :: e :: _ :: _, _, q => cases d <;> cases e <;> exact q.elim
theorem ca_tuple : CaS X ct (.type "tuple") .tuple := by
  intro pins s σ H xs us Q I r ⟨u, h, ds, R, rr, q⟩
  match ds, rr, q with
  | [d], rr, q =>
    obtain ⟨x, rfl, r1⟩ := rr.one
    simp only [biD] at q
    cases e : items h d with
    | none => rw [e] at q; exact q.elim
    | some ys =>
      rw [e] at q
      cases r1 with
      | tup e1 r2 =>
        cases e
        exact call_tuple_of pins s σ H _ us Q I r ⟨_, _, rfl, .inr ⟨SqT.of e1, q.here R (.tup e1 r2)⟩⟩
      | lst e1 r2 =>
        cases e
        exact call_tuple_of pins s σ H _ us Q I r ⟨_, _, rfl, .inl ⟨e1.l, fun p hp => q.newT R r2 hp⟩⟩
      | @ref n a ha =>
        have e' : asList h (.ref n) = some ys := by
          simp only [items] at e
          simp only [asList]
          exact e
        obtain ⟨b, vs, eb, h1, h2⟩ := RV.list (.ref ha) R e'
        cases eb
        exact call_tuple_of pins s σ H _ us Q I r ⟨_, _, rfl, .inl ⟨h1.l, fun p hp => q.newT R h2 hp⟩⟩
      | _ => cases e
  | [], _, q => exact q.elim
  | d :: _ :: _, _, q => exact q.elim
theorem ca_list : CaS X ct (.type "list") .list := by
  intro pins s σ H xs us Q I r ⟨u, h, ds, R, rr, q⟩
  match ds, rr, q with
  | [d], rr, q =>
    obtain ⟨x, rfl, r1⟩ := rr.one
    simp only [biD] at q
    cases e : items h d with
    | none => rw [e] at q; exact q.elim
    | some ys =>
      rw [e] at q
      obtain ⟨a, vs, rfl, h1, h2⟩ := r1.seq R e
      exact call_list_of pins s σ H _ us Q I r ⟨a, vs, rfl, h1, fun p hp => q.newL R h2 hp⟩
  | [], _, q => exact q.elim
  | d :: _ :: _, _, q => exact q.elim
theorem intKs_of : ∀ {kvs : List (Key × D)} {ns : List Int}, intKs kvs = some ns → kvs.map (·.1) = ns.map Sum.inl
  | [], ns, e => by cases e; rfl
  | (.inl i, d) :: r, ns, e => by
    simp only [intKs, Option.map_eq_some_iff] at e
    obtain ⟨ms, e1, rfl⟩ := e
    rw [List.map_cons, List.map_cons, intKs_of e1]
  | (.inr i, d) :: r, ns, e => by cases e
theorem ca_sorted (hc : X.calm = true) : CaS X ct (.builtin "sorted") .sorted := by
  intro pins s σ H xs us Q I r ⟨u, h, ds, R, rr, q⟩
  match ds, rr, q with
  | [d], rr, q =>
    obtain ⟨x, rfl, r1⟩ := rr.one
    simp only [biD] at q
    cases e : (asList h d).bind intsD with
    | none =>
      rw [e] at q
      simp only at q
      cases r1 with
      | @ref n a ha =>
        simp only [keysI] at q
        cases hn : h[n]? with
        | none => simp only [hn] at q; exact q.elim
        | some o =>
          cases o with
          | dct kvs =>
            simp only [hn] at q
            cases ek : intKs kvs with
            | none => simp only [ek] at q; exact q.elim
            | some ns =>
              simp only [ek] at q
              split at q
              · rename_i hz
                obtain ⟨vs, e1, rk⟩ := R.ob n _ a hn ha
                refine call_sortedDI hc pins s σ H _ us Q I r ⟨a, vs, ns, rfl, .inl e1, ?_, hz, fun ys p p1 p2 hp => ?_⟩
                · rw [← rk.keys]; exact intKs_of ek
                · have e3 := sorted_unique (p1.trans (sortI_perm ns).symm) p2 (sortI_sorted ns)
                  subst e3
                  exact q.newL R (RVs.ofInts _) hp
              · exact q.elim
          | _ => simp only [hn] at q; exact q.elim
      | _ => exact q.elim
    | some ns =>
      rw [e] at q
      obtain ⟨a, vs, zs, rfl, h1, h2, h3⟩ := r1.listOf R e
      have e2 := h2.ints h3
      subst e2
      refine cr_sortedI pins s σ H _ us Q I r ⟨a, ns, rfl, h1.l, fun ns' p p1 p2 hp => ?_⟩
      have e3 := sorted_unique (p1.trans (sortI_perm ns).symm) p2 (sortI_sorted ns)
      subst e3
      exact q.newL R (RVs.ofInts _) hp
  | [], _, q => exact q.elim
  | d :: _ :: _, _, q => exact q.elim
end
end PX

/-! PXf: methods of built-in types, stores, attributes, locks. -/
namespace PX
open PySem PySem.Spec PyProof.Rows L2
section
variable {X : Cx} {ct : Nat → Option Addr}
/-- a method of a built-in type, called with values -/
def MeS (X : Cx) (ct : Nat → Option Addr) (id : String) (m : Bm) : Prop :=
  MtR X id fun x xs H Q => ∃ u h d ds, HR X.K ct u h H ∧ RV X.K u H d x ∧ RVs X.K u H ds xs ∧ PR X.K ct u H (bmD m d ds h) Q
/-- a receiver that has a number, what stands there -/
theorem recv_ref {K : Fr} {u : List Addr} {h : Hs} {H : Hp} {m : Bm} {d : D} {x : V} {ds : List D} {Q : VK} (r : RV K u H d x) (q : PR K ct u H (bmD m d ds h) Q) : ∃ n a o, d = .ref n ∧ x = .ref a ∧ u[n]? = some a ∧ h[n]? = some o := by
  cases r with
  | @ref n a ha =>
    cases hn : h[n]? with
    | none =>
      simp only [bmD, hn] at q
      exact q.elim
    | some o => exact ⟨n, a, o, rfl, rfl, ha, hn⟩
  | _ => exact q.elim
theorem me_append : MeS X ct "list.append" .append := by
  intro pins s σ H x xs v us Q I rx rxs ⟨u, h, d, ds, R, r, rr, q⟩
  obtain ⟨n, a, o, rfl, rfl, ha, hn⟩ := recv_ref r q
  have z := R.ob n o a hn ha
  simp only [bmD, hn] at q
  cases o with
  | lst ys =>
    obtain ⟨vs, e1, r2⟩ := z
    match ds, rr, q with
    | [d], rr, q =>
      obtain ⟨y, rfl, r1⟩ := rr.one
      simp only at q
      split at q
      · rename_i hz
        have l : Later u H u (upd H a (.lst (vs ++ [y]))) := Later.set (List.mem_of_getElem? ha) e1 (fun _ => nofun) (fun _ _ => nofun)
        refine mt_append pins s σ H _ _ v us Q I rx rxs ⟨a, vs, y, rfl, rfl, e1, by rw [← r2.length, ← lim_eq]; exact hz, ?_⟩
        exact q.put R ha e1 (fun _ => nofun) (fun _ _ => nofun) ⟨_, upd_same, (r2.append (.cons r1 .nil)).up l⟩ .non
      · exact q.elim
    | [], _, q => exact q.elim
    | _ :: _ :: _, _, q => exact q.elim
  | dct kvs => exact q.elim
  | dtp kvs => exact q.elim
  | frz kvs => exact q.elim
  | ins c fs => exact q.elim
/-- the list's object behind an append of many -/
theorem mt_extendR : MtR X "list.extend" (fun x vs H Q => ∃ l b xs zs, x = .ref l ∧ vs = [.ref b] ∧ H l = some (.lst xs) ∧ Lk X.K H b zs ∧ xs.length + zs.length ≤ sizeLine ∧ Q .non (upd H l (.lst (xs ++ zs)))) := by
  intro pins s σ H x vs v us Q I rx rv ⟨l, b, xs, zs, ex, ev, hH, hB, hz, q⟩
  subst ex ev
  cases rx
  obtain ⟨w, rfl, rw'⟩ := rv.one
  cases rw'
  obtain ⟨i1, n1, z1, r1, l1, g1⟩ := Inv.rd I (.inl (.inl hH))
  obtain ⟨i2, n2, z2, r2, l2, g2⟩ := Inv.rd I hB
  have room : i1.toArray.size + i2.toArray.size ≤ sizeLine := by simp only [List.size_toArray]; omega
  have ok : ¬ (!i1.toArray.isEmpty && Builtin.List.listTooLong (i1.toArray.size + i2.toArray.size)) = true := by
    rw [notLongL room, Bool.and_false]
    simp
  refine call_meets F.slot_list_extend ⟨_, g1, rfl⟩ F.entry_list_extend (F.args_list_extend_2 _ _) (AutoSeq1.list_extend_list_list_0 l i1.toArray n1 b i2.toArray n2 ok (by simp only [List.size_toArray]; omega) (by omega)) ⟨g1, g2, ?_⟩
  exact ⟨.non, _, I.lset (its' := i1 ++ i2) hH g1 (by simp) (r1.append r2) (by simp only [List.length_append]; omega), rfl, q⟩
theorem me_extend : MeS X ct "list.extend" .extend := by
  intro pins s σ H x xs v us Q I rx rxs ⟨u, h, d, ds, R, r, rr, q⟩
  obtain ⟨n, a, o, rfl, rfl, ha, hn⟩ := recv_ref r q
  have z := R.ob n o a hn ha
  simp only [bmD, hn] at q
  cases o with
  | lst ys =>
    obtain ⟨vs, e1, r2⟩ := z
    match ds, rr, q with
    | [d], rr, q =>
      obtain ⟨y, rfl, r1⟩ := rr.one
      simp only at q
      cases e : asList h d with
      | none => rw [e] at q; exact q.elim
      | some zs =>
        rw [e] at q
        simp only at q
        split at q
        · rename_i hz
          obtain ⟨b, ws, rfl, e2, r3⟩ := r1.list R e
          have l : Later u H u (upd H a (.lst (vs ++ ws))) := Later.set (List.mem_of_getElem? ha) e1 (fun _ => nofun) (fun _ _ => nofun)
          refine mt_extendR pins s σ H _ _ v us Q I rx rxs ⟨a, b, vs, ws, rfl, rfl, e1, e2, by rw [← r2.length, ← r3.length, ← lim_eq]; exact hz, ?_⟩
          exact q.put R ha e1 (fun _ => nofun) (fun _ _ => nofun) ⟨_, upd_same, (r2.append r3).up l⟩ .non
        · exact q.elim
    | [], _, q => exact q.elim
    | _ :: _ :: _, _, q => exact q.elim
  | dct kvs => exact q.elim
  | dtp kvs => exact q.elim
  | frz kvs => exact q.elim
  | ins c fs => exact q.elim
theorem me_pop0 : MeS X ct "list.pop" .pop0 := by
  intro pins s σ H x xs v us Q I rx rxs ⟨u, h, d, ds, R, r, rr, q⟩
  obtain ⟨n, a, o, rfl, rfl, ha, hn⟩ := recv_ref r q
  have z := R.ob n o a hn ha
  simp only [bmD, hn] at q
  cases o with
  | lst ys =>
    obtain ⟨vs, e1, r2⟩ := z
    match ds, rr, q with
    | [], rr, q =>
      cases rr
      simp only at q
      cases hy : ys[ys.length - 1]? with
      | none => rw [hy] at q; exact q.elim
      | some y =>
        rw [hy] at q
        obtain ⟨w, hw, rw'⟩ := r2.get hy
        have l : Later u H u (upd H a (.lst vs.dropLast)) := Later.set (List.mem_of_getElem? ha) e1 (fun _ => nofun) (fun _ _ => nofun)
        refine mt_pop pins s σ H _ _ v us Q I rx rxs ⟨a, vs, w, rfl, rfl, e1, by rw [← r2.length]; exact hw, ?_⟩
        exact q.put R ha e1 (fun _ => nofun) (fun _ _ => nofun) ⟨_, upd_same, r2.dropLast.up l⟩ rw'
    | _ :: _, _, q => exact q.elim
  | dct kvs => exact q.elim
  | dtp kvs => exact q.elim
  | frz kvs => exact q.elim
  | ins c fs => exact q.elim
theorem me_pop1 : MeS X ct "list.pop" .pop1 := by
  intro pins s σ H x xs v us Q I rx rxs ⟨u, h, d, ds, R, r, rr, q⟩
  obtain ⟨n, a, o, rfl, rfl, ha, hn⟩ := recv_ref r q
  have z := R.ob n o a hn ha
  simp only [bmD, hn] at q
  cases o with
  | lst ys =>
    obtain ⟨vs, e1, r2⟩ := z
    match ds, rr, q with
    | [d], rr, q =>
      obtain ⟨y, rfl, r1⟩ := rr.one
      cases r1 with
      | int i =>
        simp only at q
        split at q
        · rename_i h0
          cases hy : ys[i.toNat]? with
          | none => rw [hy] at q; exact q.elim
          | some y =>
            rw [hy] at q
            obtain ⟨w, hw, rw'⟩ := r2.get hy
            have hlt := (List.getElem?_eq_some_iff.mp hw).1
            obtain ⟨its, k, z1, _, _, _⟩ := Inv.rd I (.inl (.inl e1))
            have hn := line63
            have l : Later u H u (upd H a (.lst (vs.eraseIdx i.toNat))) := Later.set (List.mem_of_getElem? ha) e1 (fun _ => nofun) (fun _ _ => nofun)
            refine mt_popAt pins s σ H _ _ v us Q I rx rxs ⟨a, vs, i, i.toNat, w, rfl, rfl, e1, by omega, by omega, seqIndex_of h0 (by omega), hw, ?_⟩
            exact q.put R ha e1 (fun _ => nofun) (fun _ _ => nofun) ⟨_, upd_same, (r2.eraseIdx i.toNat).up l⟩ rw'
        · exact q.elim
      | _ => exact q.elim
    | [], _, q => exact q.elim
    | d :: _ :: _, _, q => cases d <;> exact q.elim
  | dct kvs => exact q.elim
  | dtp kvs => exact q.elim
  | frz kvs => exact q.elim
  | ins c fs => exact q.elim
/-- what the dict with a number tells of a key, by its kind -/
theorem dget_any {K : Fr} {u : List Addr} {h : Hs} {H : Hp} {n : Nat} {a : Addr} {d : D} {x : V} {f : Option D → Res Raw} {Q : VK} (R : HR K ct u h H) (ha : u[n]? = some a) (r : RV K u H d x)
    (q : PR K ct u H (match h[n]? with
      | some (.dct kvs) => match keyD d with
        | some k => f (getKD kvs k)
        | none => .stuck
      | some (.dtp kvs) => match d with
        | .tup k => match keysD k with
          | some k => f (getKD kvs k)
          | none => .stuck
        | _ => .stuck
      | _ => .stuck) Q) : (DGet H a x none ∧ PR K ct u H (f none) Q) ∨ ∃ w v, DGet H a x (some v) ∧ RV K u H w v ∧ PR K ct u H (f (some w)) Q := by
  cases hn : h[n]? with
  | none => rw [hn] at q; exact q.elim
  | some o =>
    rw [hn] at q
    cases o with
    | dct kvs =>
      simp only at q
      cases hk : keyD d with
      | none => rw [hk] at q; exact q.elim
      | some k =>
        rw [hk] at q
        simp only at q
        rcases dget_of R hn ha r hk with ⟨h1, h2⟩ | ⟨w, v, h1, h2, h3⟩
        · rw [h1] at q; exact .inl ⟨h2, q⟩
        · rw [h1] at q; exact .inr ⟨w, v, h2, h3, q⟩
    | dtp kvs =>
      cases d with
      | tup ds =>
        simp only at q
        cases hk : keysD ds with
        | none => rw [hk] at q; exact q.elim
        | some k =>
          rw [hk] at q
          simp only at q
          rcases dgetT_of R hn ha r hk with ⟨h1, h2⟩ | ⟨w, v, h1, h2, h3⟩
          · rw [h1] at q; exact .inl ⟨h2, q⟩
          · rw [h1] at q; exact .inr ⟨w, v, h2, h3, q⟩
      | _ => exact q.elim
    | lst kvs => exact q.elim
    | frz kvs => exact q.elim
    | ins c fs => exact q.elim
theorem me_get1 (hu : X.A.units + 1 < cLine) : MeS X ct "dict.get" .get1 := by
  intro pins s σ H x xs v us Q I rx rxs ⟨u, h, d, ds, R, r, rr, q⟩
  obtain ⟨n, a, o, rfl, rfl, ha, hn⟩ := recv_ref r q
  cases rx
  match ds, rr, q with
  | [d], rr, q =>
    obtain ⟨y, rfl, r1⟩ := rr.one
    obtain ⟨w, rfl, rw'⟩ := vals1 rxs
    have q2 := dget_any (f := fun o => .ok (.val (o.getD .non)) h) (Q := Q) R ha r1 (by
      simp only [bmD, hn] at q
      rw [hn]
      cases o with
      | dct kvs => exact q
      | dtp kvs => cases d <;> exact q
      | _ => exact q)
    rcases q2 with ⟨g, q2⟩ | ⟨w', v', g, r3, q2⟩
    · exact d_get1 hu I g rw' fun w2 s' I' r' => ⟨.non, H, I', r', q2.here R .non⟩
    · exact d_get1 hu I g rw' fun w2 s' I' r' => ⟨v', H, I', r', q2.here R r3⟩
  | [], _, q =>
    simp only [bmD, hn] at q
    cases o <;> exact q.elim
  | d :: _ :: _, _, q =>
    simp only [bmD, hn] at q
    cases o <;> first | exact q.elim | (cases d <;> exact q.elim)
theorem me_get2 (hu : X.A.units + 1 < cLine) : MeS X ct "dict.get" .get2 := by
  intro pins s σ H x xs v us Q I rx rxs ⟨u, h, d, ds, R, r, rr, q⟩
  obtain ⟨n, a, o, rfl, rfl, ha, hn⟩ := recv_ref r q
  cases rx
  match ds, rr, q with
  | [d, e], rr, q =>
    obtain ⟨y, z, rfl, r1, r2⟩ := rr.two
    obtain ⟨w, w2, rfl, rw', rw2⟩ := vals2 rxs
    have q2 := dget_any (f := fun o => .ok (.val (o.getD e)) h) (Q := Q) R ha r1 (by
      simp only [bmD, hn] at q
      rw [hn]
      cases o with
      | dct kvs => exact q
      | dtp kvs => cases d <;> exact q
      | _ => exact q)
    rcases q2 with ⟨g, q2⟩ | ⟨w', v', g, r3, q2⟩
    · exact d_get2 hu I g rw' rw2 fun w2 s' I' r' => ⟨z, H, I', r', q2.here R r2⟩
    · exact d_get2 hu I g rw' rw2 fun w2 s' I' r' => ⟨v', H, I', r', q2.here R r3⟩
  | [], _, q =>
    simp only [bmD, hn] at q
    cases o <;> exact q.elim
  | [d], _, q =>
    simp only [bmD, hn] at q
    cases o <;> first | exact q.elim | (cases d <;> exact q.elim)
  | d :: _ :: _ :: _, _, q =>
    simp only [bmD, hn] at q
    cases o <;> first | exact q.elim | (cases d <;> exact q.elim)
theorem me_setdefault : MeS X ct "dict.setdefault" .setdefault := by
  intro pins s σ H x xs v us Q I rx rxs ⟨u, h, d, ds, R, r, rr, q⟩
  obtain ⟨n, a, o, rfl, rfl, ha, hn⟩ := recv_ref r q
  have z := R.ob n o a hn ha
  cases rx
  simp only [bmD, hn] at q
  cases o with
  | dct kvs =>
    obtain ⟨vs, e1, rk⟩ := z
    match ds, rr, q with
    | [d, e], rr, q =>
      obtain ⟨y, z, rfl, r1, r2⟩ := rr.two
      obtain ⟨w, w2, rfl, rw', rw2⟩ := vals2 rxs
      simp only at q
      cases hk : keyD d with
      | none => rw [hk] at q; exact q.elim
      | some k =>
        rw [hk] at q
        simp only at q
        have ey := keyD_of r1 hk
        subst ey
        split at q
        · rename_i hz
          have hz2 : vs.length < sizeLine := by rw [← rk.length, ← lim_eq]; exact hz
          rcases rk.get k with ⟨h1, h2⟩ | ⟨w', v', h1, h2, h3⟩
          · rw [h1] at q
            refine d_setd I e1 rw' rw2 hz2 (fun v hv => by rw [h2] at hv; cases hv) fun _ w3 s' I' r' => ⟨z, _, I', r', ?_⟩
            have l : Later u H u (upd H a (.dK (putK vs k z))) := Later.set (List.mem_of_getElem? ha) e1 (fun _ => nofun) (fun _ _ => nofun)
            exact q.put R ha e1 (fun _ => nofun) (fun _ _ => nofun) ⟨_, upd_same, (rk.put k r2).up l⟩ r2
          · rw [h1] at q
            refine d_setd I e1 rw' rw2 hz2 (fun v hv w3 s' I' r' => ?_) fun hv => by rw [h2] at hv; cases hv
            rw [h2] at hv
            cases hv
            exact ⟨_, H, I', r', q.here R h3⟩
        · exact q.elim
    | [], _, q => exact q.elim
    | [d], _, q => exact q.elim
    | d :: _ :: _ :: _, _, q => exact q.elim
  | lst kvs => cases ds <;> exact q.elim
  | frz kvs => exact q.elim
  | dtp kvs => cases ds <;> first | exact q.elim | skip
  | ins c fs => exact q.elim
/-- o[i] = v -/
theorem set_ok (hu : X.A.units + 1 < cLine) : PSet X fun o i v H Q => ∃ u h d e f h', HR X.K ct u h H ∧ RV X.K u H d o ∧ RV X.K u H e i ∧ RV X.K u H f v ∧ setD d e f h = .ok () h' ∧ ∀ H', Later u H u H' → HR X.K ct u h' H' → Q H' := by
  intro pins s σ H o i v ov iv w Q I ro ri rv ⟨u, h, d, e, f, h', R, r1, r2, r3, hs, q⟩
  cases r1 with
  | @ref n a ha =>
    cases hn : h[n]? with
    | none => simp only [setD, hn] at hs; cases hs
    | some ob =>
      have z := R.ob n ob a hn ha
      simp only [setD, hn] at hs
      cases ob with
      | lst ys =>
        obtain ⟨vs, e1, rr⟩ := z
        cases r2 with
        | int k =>
          simp only at hs
          cases hj : ixN ys.length k with
          | none => rw [hj] at hs; cases hs
          | some j =>
            rw [hj] at hs
            cases hs
            have l : Later u H u (upd H a (.lst (vs.set j v))) := Later.set (List.mem_of_getElem? ha) e1 (fun _ => nofun) (fun _ _ => nofun)
            refine set_list pins s σ H _ _ v ov iv w Q I ro ri rv ⟨a, vs, k, j, rfl, rfl, e1, by rw [← rr.length]; exact hj, ?_⟩
            exact q _ l (R.set ha l ⟨_, upd_same, (rr.set r3 j).up l⟩)
        | _ => cases hs
      | dct kvs =>
        obtain ⟨vs, e1, rk⟩ := z
        simp only at hs
        cases hk : keyD e with
        | none => rw [hk] at hs; cases hs
        | some k =>
          rw [hk] at hs
          simp only at hs
          split at hs
          · rename_i hz
            cases hs
            have ey := keyD_of r2 hk
            subst ey
            have l : Later u H u (upd H a (.dK (putK vs k v))) := Later.set (List.mem_of_getElem? ha) e1 (fun _ => nofun) (fun _ _ => nofun)
            cases ro
            exact d_setItem hu I (DPut.k (k := k) (v := v) e1 (by rw [← rk.length, ← lim_eq]; exact hz)) ri rv fun s' I' => ⟨_, I', q _ l (R.set ha l ⟨_, upd_same, (rk.put k r3).up l⟩)⟩
          · cases hs
      | dtp kvs =>
        obtain ⟨vs, e1, rk⟩ := z
        cases r2 with
        | @tup b ws ds eb rr =>
          simp only at hs
          cases hk : keysD ds with
          | none => rw [hk] at hs; cases hs
          | some k =>
            rw [hk] at hs
            simp only at hs
            split at hs
            · rename_i hz
              cases hs
              rw [keysD_of rr hk] at eb
              have l : Later u H u (upd H a (.dT (putK vs k v))) := Later.set (List.mem_of_getElem? ha) e1 (fun _ => nofun) (fun _ _ => nofun)
              cases ro
              exact d_setItem hu I (DPut.t (k := k) (v := v) e1 eb (by rw [← rk.length, ← lim_eq]; exact hz)) ri rv fun s' I' => ⟨_, I', q _ l (R.set ha l ⟨_, upd_same, (rk.put k r3).up l⟩)⟩
            · cases hs
        | _ => cases hs
      | frz kvs => cases hs
      | ins c fs => cases hs
  | _ => cases hs
end
end PX

/-! PXg: what follows a piece of the small language; the names of a program; side conditions of the syntax. -/
namespace PX
open PySem PySem.Spec PyProof.Rows L2
abbrev Ft := Nat → List (Str × D) → List Addr → Hs → Hp → Prop
section
variable {α β γ δ : Type} {K : Fr} {ct : Nat → Option Addr}
/-- what must follow an answer; E: what is wanted of an exception; Rl: how the answer is borne -/
def Pg (K : Fr) (ct : Nat → Option Addr) (E : Ft) (Rl : α → Hp → List Addr → Hp → β → Prop) (u : List Addr) (H : Hp) (r : Res α) (Q : β → Hp → Prop) : Prop := match r with
  | .ok a h' => ∀ u' H' b, Later u H u' H' → HR K ct u' h' H' → Rl a H u' H' b → Q b H'
  | .err c fs h' => ∀ u' H', Later u H u' H' → HR K ct u' h' H' → E c fs u' h' H'
  | .stuck => False
/-- it leans on the earlier heap by what was free there alone -/
def Low (Rl : α → Hp → List Addr → Hp → β → Prop) : Prop := ∀ a H0 H1 u H b, (∀ p, H1 p = none → H0 p = none) → Rl a H1 u H b → Rl a H0 u H b
variable {E : Ft} {R1 : α → Hp → List Addr → Hp → β → Prop} {R2 : γ → Hp → List Addr → Hp → δ → Prop} {u u1 : List Addr} {h : Hs} {H H1 : Hp}
theorem Pg.later {r : Res α} {Q : β → Hp → Prop} (q : Pg K ct E R1 u H r Q) (lw : Low R1) (l : Later u H u1 H1) : Pg K ct E R1 u1 H1 r Q := by
  cases r with
  | ok a h' => exact fun u' H' b l' R' r' => q u' H' b (l.trans l') R' (lw a H H1 u' H' b l.liv r')
  | err c fs h' => exact fun u' H' l' R' => q u' H' (l.trans l') R'
  | stuck => exact q
theorem Pg.bind {m : M α} {f : α → M γ} {Q : δ → Hp → Prop} {Q1 : β → Hp → Prop} (q : Pg K ct E R2 u H (M.bind m f h) Q) (lw : Low R2)
    (k : ∀ a h1, m h = .ok a h1 → ∀ u1 H1 b, Later u H u1 H1 → HR K ct u1 h1 H1 → R1 a H u1 H1 b → Pg K ct E R2 u1 H1 (f a h1) Q → Q1 b H1) : Pg K ct E R1 u H (m h) Q1 := by
  unfold M.bind at q
  cases e : m h with
  | ok a h1 =>
    rw [e] at q
    exact fun u1 H1 b l1 R' r' => k a h1 e u1 H1 b l1 R' r' (q.later lw l1)
  | err c fs h1 =>
    rw [e] at q
    exact q
  | stuck =>
    rw [e] at q
    exact q
theorem Pg.imp {r : Res α} {Q Q' : β → Hp → Prop} (q : Pg K ct E R1 u H r Q) (k : ∀ b H', Q b H' → Q' b H') : Pg K ct E R1 u H r Q' := by
  cases r with
  | ok a h' => exact fun u' H' b l' R' r' => k _ _ (q u' H' b l' R' r')
  | err c fs h' => exact q
  | stuck => exact q
/-- how values, lists of values, plain answers are borne -/
def RD (K : Fr) : D → Hp → List Addr → Hp → V → Prop := fun d _ u H v => RV K u H d v
def RL (K : Fr) : List D → Hp → List Addr → Hp → List V → Prop := fun d _ u H v => RVs K u H d v
def RE {α : Type} : α → Hp → List Addr → Hp → α → Prop := fun a _ _ _ b => b = a
def RW (K : Fr) : Raw → Hp → List Addr → Hp → V → Prop := fun r H0 u H v => match r with
  | .val d => RV K u H d v
  | .new xs => ∃ p vs, v = .ref p ∧ p ∉ u ∧ H0 p = none ∧ H p = some (.lst vs) ∧ RVs K u H xs vs
theorem low_D : Low (RD K) := fun _ _ _ _ _ _ _ r => r
theorem low_L : Low (RL K) := fun _ _ _ _ _ _ _ r => r
theorem low_E : Low (@RE α) := fun _ _ _ _ _ _ _ r => r
theorem low_W : Low (RW K) := fun a H0 H1 u H b k r => by
  cases a with
  | val d => exact r
  | new xs =>
    obtain ⟨p, vs, e, h1, h2, h3⟩ := r
    exact ⟨p, vs, e, h1, k p h2, h3⟩
/-- to the operations' form -/
theorem Pg.pr {r : Res Raw} {Q : VK} (q : Pg K ct E (RW K) u H r Q) : PR K ct u H r Q := by
  cases r with
  | ok a h' =>
    cases a with
    | val d => exact fun u' H' v l R r => q u' H' v l R r
    | new xs => exact fun u' H' p vs l R n0 n1 e r => q u' H' (.ref p) l R ⟨p, vs, rfl, n0, n1, e, r⟩
  | err c fs h' => exact trivial
  | stuck => exact q
theorem _root_.PX.Later.nameNew {u u' : List Addr} {H H' : Hp} {p : Addr} (l : Later u H u' H') (n : H p = none) : Later u H (u' ++ [p]) H' := by
  obtain ⟨w, e, hw⟩ := l.pre
  refine ⟨⟨w ++ [p], by rw [e, List.append_assoc], fun a ha => ?_⟩, l.tup, l.frz, l.frm, l.liv⟩
  rcases List.mem_append.mp ha with ha | ha
  · exact hw a ha
  · rw [List.mem_singleton.mp ha]
    exact n
/-- a new list gets its number -/
theorem Pg.val {m : M Raw} {Q : VK} (q : Pg K ct E (RD K) u H (V3 m h) Q) : Pg K ct E (RW K) u H (m h) Q := by
  show Pg K ct E (RW K) u H (m h) Q
  have q : Pg K ct E (RD K) u H (M.bind m toD h) Q := q
  unfold M.bind at q
  cases e : m h with
  | ok a h1 =>
    rw [e] at q
    cases a with
    | val d => exact fun u' H' b l R r => q u' H' b l R r
    | new xs =>
      rintro u' H' b l R ⟨p, vs, rfl, n0, n1, hp, r⟩
      refine q (u' ++ [p]) H' (.ref p) (l.nameNew n1) (R.name n0 ⟨vs, hp, r.upw Wk.more⟩) (.ref ?_)
      rw [← R.len, List.getElem?_append_right (Nat.le_refl _), Nat.sub_self]
      rfl
  | err c fs h1 =>
    rw [e] at q
    exact q
  | stuck =>
    rw [e] at q
    exact q
end

/-! ### a lock -/
section
variable {X : Cx} {pins : List (Addr × Obj)} {σ : L2.St} {H : Hp} {s : Shared} {p : Addr} {vs : List V}
theorem pe_lock {e : Expr} {t : TE} (he : PE X e t) : PE X e (fun σ H Q => t σ H fun v H1 => Q v H1 ∨ ∃ p vs, H1 p = some (.lst vs) ∧ ∀ o, Q v (upd H1 p (.frz o (.lst vs)))) := by
  refine ⟨fun pins s σ H Q I h => thn (he.run pins s σ H _ I h) fun w s1 ⟨v, H1, I1, r, q⟩ => ?_⟩
  rcases q with q | ⟨p, vs, e, q⟩
  · exact ⟨v, H1, I1, r, q⟩
  · obtain ⟨o, I2⟩ := L2.Inv.lock I1 e trivial
    exact ⟨v, _, I2, r, q o⟩
theorem PE.imp {e : Expr} {t t' : TE} (he : PE X e t) (k : ∀ σ H Q, t' σ H Q → t σ H Q) : PE X e t' := ⟨fun pins s σ H Q I h => he.run pins s σ H Q I (k σ H Q h)⟩
theorem PT.imp {e : Expr} {t t' : TT} (he : PT X e t) (k : ∀ σ H Q, t' σ H Q → t σ H Q) : PT X e t' := ⟨fun pins s σ H Q I h => he.run pins s σ H Q I (k σ H Q h)⟩
theorem PA.imp {e : List Expr} {t t' : TA} (he : PA X e t) (k : ∀ σ H Q, t' σ H Q → t σ H Q) : PA X e t' := ⟨fun pos pins s σ H Q I h => he.run pos pins s σ H Q I (k σ H Q h)⟩
theorem PO.imp {e : Option Expr} {t t' : TO} (he : PO X e t) (k : ∀ σ H Q, t' σ H Q → t σ H Q) : PO X e t' := ⟨fun pins s σ H Q I h => he.run pins s σ H Q I (k σ H Q h)⟩
theorem PS.imp {e : Stmt} {t t' : TS} (he : PS X e t) (k : ∀ D σ H, t' D σ H → t D σ H) : PS X e t' := ⟨fun pins s σ H D I h => he.run pins s σ H D I (k D σ H h)⟩
theorem PSs.imp {e : List Stmt} {t t' : TS} (he : PSs X e t) (k : ∀ D σ H, t' D σ H → t D σ H) : PSs X e t' := ⟨fun pins s σ H D I h => he.run pins s σ H D I (k D σ H h)⟩
end
/-- the lock of a list that has a number or none -/
theorem Later.lock {u u' : List Addr} {H H' : Hp} {p : Addr} {vs : List V} {o : Obj} (l : Later u H u' H') (e : H' p = some (.lst vs)) (hp : H p = none ∨ p ∈ u') : Later u H u' (upd H' p (.frz o (.lst vs))) := by
  refine ⟨l.pre, fun a xs h => ?_, fun a ob x h => ?_, fun a ob h hn => ?_, fun a h => ?_⟩
  · have z := l.tup a xs h
    have ne : a ≠ p := fun q => by rw [q, e] at z; cases z
    rw [upd_ne ne]; exact z
  · have z := l.frz a ob x h
    have ne : a ≠ p := fun q => by rw [q, e] at z; cases z
    rw [upd_ne ne]; exact z
  · have ne : a ≠ p := fun q => by
      subst q
      rcases hp with hp | hp
      · rw [hp] at h; cases h
      · obtain ⟨w, rfl, hw⟩ := l.pre
        rcases List.mem_append.mp hp with z | z
        · exact hn z
        · rw [hw a z] at h; cases h
    rw [upd_ne ne]
    exact l.frm a ob h hn
  · by_cases q : a = p
    · subst q; rw [upd_same] at h; cases h
    · rw [upd_ne q] at h
      exact l.liv a h
theorem Wk.lock {u : List Addr} {H : Hp} {p : Addr} {vs : List V} {o : Obj} (e : H p = some (.lst vs)) : Wk u H u (upd H p (.frz o (.lst vs))) := by
  refine ⟨fun _ _ h => h, fun a xs h => ?_, fun a ob x h => ?_⟩
  · have ne : a ≠ p := fun q => by rw [q, e] at h; cases h
    rw [upd_ne ne]; exact h
  · have ne : a ≠ p := fun q => by rw [q, e] at h; cases h
    rw [upd_ne ne]; exact h
theorem HR.lockOut {K : Fr} {ct : Nat → Option Addr} {u : List Addr} {h : Hs} {H : Hp} {p : Addr} {vs : List V} {o : Obj} (R : HR K ct u h H) (hp : p ∉ u) (e : H p = some (.lst vs)) : HR K ct u h (upd H p (.frz o (.lst vs))) :=
  ⟨R.len, R.nd, fun n ob a e1 ha => (R.ob n ob a e1 ha).upw (Wk.lock e) (upd_ne fun z => hp (by rw [← z]; exact List.mem_of_getElem? ha))⟩
theorem HR.lockIn {K : Fr} {ct : Nat → Option Addr} {u : List Addr} {h : Hs} {H : Hp} {n : Nat} {p : Addr} {vs : List V} {xs : List D} {o : Obj} (R : HR K ct u h H) (hp : u[n]? = some p) (e : H p = some (.lst vs)) (r : RVs K u H xs vs) : HR K ct u (h.set n (.frz xs)) (upd H p (.frz o (.lst vs))) := by
  refine ⟨by rw [List.length_set]; exact R.len, R.nd, fun k ob a e1 ha => ?_⟩
  by_cases hk : n = k
  · subst hk
    have hn : n < h.length := by
      have := (List.getElem?_eq_some_iff.mp e1).1
      rwa [List.length_set] at this
    rw [List.getElem?_set_self hn] at e1
    cases e1
    rw [hp] at ha
    cases ha
    exact ⟨vs, o, upd_same, r.upw (Wk.lock e)⟩
  · rw [List.getElem?_set_ne hk] at e1
    have hne : a ≠ p := fun z => by
      subst z
      have e2 := (List.getElem?_eq_some_iff.mp hp).2
      have e3 := (List.getElem?_eq_some_iff.mp ha).2
      exact hk ((List.getElem_inj R.nd).mp (e2.trans e3.symm))
    exact (R.ob k ob a e1 ha).upw (Wk.lock e) (upd_ne hne)
/-- the raw answer locked -/
def fzR (r : Raw) : M Raw := match r with
  | .new xs => ret (.lst xs)
  | .val d => (fzD d).bind ret
theorem Pg.lock {K : Fr} {ct : Nat → Option Addr} {E : Ft} {u : List Addr} {h : Hs} {H : Hp} {m : M Raw} {Q : VK} (q : Pg K ct E (RW K) u H (M.bind m fzR h) Q) :
    Pg K ct E (RW K) u H (m h) fun v H1 => Q v H1 ∨ ∃ p vs, H1 p = some (.lst vs) ∧ ∀ o, Q v (upd H1 p (.frz o (.lst vs))) := by
  unfold M.bind at q
  cases e : m h with
  | ok a h1 =>
    rw [e] at q
    cases a with
    | new xs =>
      rintro u1 H1 b l1 R1 ⟨p, vs, rfl, n0, n1, hp, r1⟩
      exact .inr ⟨p, vs, hp, fun o => q u1 _ (.ref p) (l1.lock hp (.inl n1)) (R1.lockOut n0 hp) (.lst (.inl ⟨o, upd_same⟩) (r1.upw (Wk.lock hp)))⟩
    | val d =>
      intro u1 H1 b l1 R1 r1
      have r1 : RV K u1 H1 d b := r1
      have plain : fzD d h1 = .ok d h1 → Q b H1 := fun e2 => by
        have q2 : Pg K ct E (RW K) u H (M.bind (fzD d) ret h1) Q := q
        unfold M.bind at q2
        rw [e2] at q2
        exact q2 u1 H1 b l1 R1 r1
      cases r1 with
      | @ref n a ha =>
        cases hn : h1[n]? with
        | none => exact .inl (plain (by simp only [fzD, hn]))
        | some o =>
          have z := R1.ob n o a hn ha
          cases o with
          | lst ys =>
            obtain ⟨vs, e1, rr⟩ := z
            have q2 : Pg K ct E (RW K) u H (M.bind (fzD (.ref n)) ret h1) Q := q
            unfold M.bind at q2
            simp only [fzD, hn] at q2
            exact .inr ⟨a, vs, e1, fun o => q2 u1 _ (.ref a) (l1.lock e1 (.inr (List.mem_of_getElem? ha))) (R1.lockIn ha e1 rr) (.lst (.inl ⟨o, upd_same⟩) (rr.upw (Wk.lock e1)))⟩
          | frz ys =>
            obtain ⟨vs, o, e1, rr⟩ := z
            have q2 : Pg K ct E (RW K) u H (M.bind (fzD (.ref n)) ret h1) Q := q
            unfold M.bind at q2
            simp only [fzD, hn] at q2
            exact .inl (q2 u1 H1 (.ref a) l1 R1 (.lst (.inl ⟨o, e1⟩) rr))
          | dct kvs => exact .inl (plain (by simp only [fzD, hn]))
          | dtp kvs => exact .inl (plain (by simp only [fzD, hn]))
          | ins c fs => exact .inl (plain (by simp only [fzD, hn]))
      | _ => exact .inl (plain rfl)
  | err c fs h1 =>
    rw [e] at q
    exact q
  | stuck =>
    rw [e] at q
    exact q
end PX

/-! PXh: the small language against the text: a check that computes. -/
namespace PX
open PySem PySem.Spec PyProof.Rows L2
/-- the names of a program -/
structure Nm where
  /-- a def's number by its name; a class's; an exception class's; a module's constant; a module's tuple -/
  fn : Str → Option Nat
  cl : Str → Option Nat
  ex : Str → Option Nat
  gl : Str → Option D
  tp : Str → Option (List D)
  /-- not bound by the module: built in -/
  free : Str → Bool
def visB (sc : Scope) (x : Str) : Bool := match sc.names.lookup x with
  | some .local | some .cell | some .free => true
  | _ => false
def locB (sc : Scope) (x : Str) : Bool := match sc.names.lookup x with
  | some .local | some .cell => true
  | _ => false
def gloB (sc : Scope) (x : Str) : Bool := match sc.names.lookup x with
  | some .globalImplicit => true
  | _ => false
def dbgB (x : Str) : Bool := !(x == ("__debug__" : Str)) && !(x == ("__classdict__" : Str)) && !decide (x = ("__name__" : Str))
def notStar : Expr → Bool
  | .Starred _ _ => false
  | _ => true
/-- may stand in a subscript's brackets as it is -/
def notSlice : Expr → Bool
  | .Slice _ _ _ _ => false
  | _ => true
/-- not super() -/
def notCall0 : Expr → Bool
  | .Call (.Name _ _) [] [] _ => false
  | _ => true
/-- no comprehension -/
def notComp : Expr → Bool
  | .ListComp _ _ _ _ | .SetComp _ _ _ _ | .DictComp _ _ _ _ _ => false
  | _ => true
/-- a test that is its value's truth -/
def plainT : Expr → Bool
  | .UnaryOp .Not _ _ | .BoolOp _ _ _ | .IfExp _ _ _ _ | .Compare _ _ _ _ => false
  | _ => true
def notSet : Expr → Bool
  | .Set _ _ _ => false
  | _ => true
def notTup : Expr → Bool
  | .Tuple _ _ _ => false
  | _ => true
def conB : D → Const → Bool
  | .non, .none => true
  | .bl b, .bool c => b == c
  | .int i, .int j => decide (i = j)
  | .str s, .str t => decide (s = t)
  | _, _ => false
def scalB : D → Bool
  | .bl _ | .int _ | .str _ => true
  | _ => false
def bopB : Bop → Operator → Bool
  | .add, .Add | .sub, .Sub | .mul, .Mult | .fdiv, .FloorDiv | .mod, .Mod | .pow, .Pow => true
  | _, _ => false
def copB : Cop → CmpOp → Bool
  | .eq, .Eq | .ne, .NotEq | .lt, .Lt | .le, .LtE | .gt, .Gt | .ge, .GtE | .isn, .Is | .isnn, .IsNot | .inn, .In | .nin, .NotIn => true
  | _, _ => false
def biB : Bi → Str → Bool
  | .len, x => x == "len"
  | .abs, x => x == "abs"
  | .int, x => x == "int"
  | .str, x => x == "str"
  | .all, x => x == "all"
  | .any, x => x == "any"
  | .tuple, x => x == "tuple"
  | .list, x => x == "list"
  | .sorted, x => x == "sorted"
  | .min2, x => x == "min"
  | .max2, x => x == "max"
  | .min1, x => x == "min"
  | .max1, x => x == "max"
  | .sum, x => x == "sum"
  | _, _ => false
def bmB : Bm → Str → Bool
  | .append, x => x == "append"
  | .extend, x => x == "extend"
  | .pop0, x => x == "pop"
  | .pop1, x => x == "pop"
  | .get1, x => x == "get"
  | .get2, x => x == "get"
  | .setdefault, x => x == "setdefault"
  | _, _ => false
/-- how many arguments a method of a built-in type has here -/
def bmN : Bm → Nat
  | .append | .extend | .pop1 | .get1 => 1
  | .get2 | .setdefault => 2
  | _ => 0
def ityB (nm : Nm) : Ity → Str → Bool
  | .int, x => x == "int" && nm.free x
  | .bool, x => x == "bool" && nm.free x
  | .str, x => x == "str" && nm.free x
  | .tuple, x => x == "tuple" && nm.free x
  | .list, x => x == "list" && nm.free x
  | .dict, x => x == "dict" && nm.free x
  | _, _ => false
def isAnd : Ex → Bool
  | .and _ _ => true
  | _ => false
def isOr : Ex → Bool
  | .or _ _ => true
  | _ => false
/-- the slots of a block's own names -/
def ownN (N : List Str) (own : List Nat) : List (Str × Nat) := own.map fun i => (N.getD i "", i)
def fnB (scope : Scope) : Str → Bool := fun x => scope.names.lookup x == some .cell
def isTupE : Expr → Bool
  | .Tuple _ _ _ => true
  | _ => false
mutual
/-- t: as a test -/
def okE (nm : Nm) (N : List Str) (sc : Scope) (fb : Str → Bool) (t : Bool) : Ex → Expr → Bool
  | .var i, e => match e with
    | .Name x _ => decide (N[i]? = some x) && visB sc x && dbgB x
    | _ => false
  | .con d, e => match e with
    | .Constant c _ _ => conB d c
    | _ => false
  | .glo x d, e => match e with
    | .Name y _ => decide (x = y) && gloB sc x && dbgB x && scalB d && decide (nm.gl x = some d)
    | _ => false
  | .bin o a b, e => match e with
    | .BinOp l op r _ => bopB o op && okE nm N sc fb false a l && okE nm N sc fb false b r
    | _ => false
  | .neg a, e => match e with
    | .UnaryOp .USub l _ => okE nm N sc fb false a l
    | _ => false
  | .cmp o a b, e => match e with
    | .Compare l [op] [r] _ => copB o op && notSet r && okE nm N sc fb false a l && okE nm N sc fb false b r
    | _ => false
  | .inT a x ds neg, e => match e with
    | .Compare l [op] [.Name y _] _ => (if neg then decide (op = .NotIn) else decide (op = .In)) && okE nm N sc fb false a l && decide (x = y) && gloB sc x && dbgB x && decide (nm.tp x = some ds)
    | _ => false
  | .chn o1 o2 a b c, e => match e with
    | .Compare l [p1, p2] [m, r] _ => copB o1 p1 && copB o2 p2 && notSet r && okE nm N sc fb false a l && okE nm N sc fb false b m && okE nm N sc fb false c r
    | _ => false
  | .and a b, e => match e with
    | .BoolOp .And [l, r] _ => okE nm N sc fb t a l && okE nm N sc fb t b r
    | .BoolOp .And (l :: m :: n :: r) p => okE nm N sc fb t a l && isAnd b && okE nm N sc fb t b (.BoolOp .And (m :: n :: r) p)
    | _ => false
  | .or a b, e => match e with
    | .BoolOp .Or [l, r] _ => okE nm N sc fb t a l && okE nm N sc fb t b r
    | .BoolOp .Or (l :: m :: n :: r) p => okE nm N sc fb t a l && isOr b && okE nm N sc fb t b (.BoolOp .Or (m :: n :: r) p)
    | _ => false
  | .not a, e => match e with
    | .UnaryOp .Not l _ => okE nm N sc fb t a l
    | _ => false
  | .ite c a b, e => match e with
    | .IfExp q l r _ => !t && okE nm N sc fb true c q && okE nm N sc fb false a l && okE nm N sc fb false b r
    | _ => false
  | .tup es, e => match e with
    | .Tuple l _ _ => okEs nm N sc fb es l
    | _ => false
  | .lst es, e => match e with
    | .List l _ => okEs nm N sc fb es l
    | _ => false
  | .idx a b, e => match e with
    | .Subscript l r _ => notSlice r && okE nm N sc fb false a l && okE nm N sc fb false b r
    | _ => false
  | .sl a lo hi, e => match e with
    | .Subscript l (.Slice p q none _) _ => okE nm N sc fb false a l && okO nm N sc fb lo p && okO nm N sc fb hi q
    | _ => false
  | .att a f, e => match e with
    | .Attribute l g _ => decide (f = g) && notCall0 l && okE nm N sc fb false a l
    | _ => false
  | .call f es, e => match e with
    | .Call (.Name x _) l [] _ => decide (nm.fn x = some f) && gloB sc x && dbgB x && okEs nm N sc fb es l
    | _ => false
  | .meth m a es, e => match e with
    | .Call (.Attribute o g ap) l [] p => decide (m = g) && notCall0 o && (ap.endLine == p.line) && decide (l.length < 29) && okE nm N sc fb false a o && okEs nm N sc fb es l
    | _ => false
  | .new c es, e => match e with
    | .Call (.Name x _) l [] _ => decide (nm.cl x = some c) && gloB sc x && dbgB x && okEs nm N sc fb es l
    | _ => false
  | .bi b es, e => match e with
    | .Call (.Name x _) (l :: ls) [] _ => biB b x && nm.free x && gloB sc x && okEs nm N sc fb es (l :: ls)
    | _ => false
  | .bm m a es, e => match e with
    | .Call (.Attribute o g ap) l [] p => bmB m g && decide (l.length = bmN m) && notCall0 o && (ap.endLine == p.line) && okE nm N sc fb false a o && okEs nm N sc fb es l
    | _ => false
  | .isi a ts, e => match e with
    | .Call (.Name x _) [l, .Name y _] [] _ => (x == "isinstance") && nm.free x && gloB sc x && okE nm N sc fb false a l && notStar l && (match ts with
      | [t] => ityB nm t y && gloB sc y && dbgB y
      | _ => false)
    | _ => false
  | .fz a, e => !t && okE nm N sc fb false a e
  | .dic es, e => match e with
    | .Dict ks vs _ => decide (ks.length ≤ 15) && okP nm N sc fb es ks vs
    | _ => false
  | .dic0, e => match e with
    | .Dict [] [] _ => true
    | _ => false
  | .lc a (.mk tg it c) own, e => match e with
    | .ListComp elt [⟨tge, iter, ifs, 0⟩] scope _ => notSet iter && blkC N sc scope (ownN N own) && okI nm N sc fb tge it iter && okT nm N (relS scope sc) (fnB scope) false own tg tge && okC nm N (relS scope sc) (fnB scope) c ifs && okE nm N (relS scope sc) (fnB scope) false a elt
    | _ => false
  | .lc2 a (.mk tg it c) (.mk tg2 it2 c2) own own2, e => match e with
    | .ListComp elt [⟨tge, iter, ifs, 0⟩, ⟨tge2, iter2, ifs2, 0⟩] scope _ => notSet iter && notSet iter2 && blkC N sc scope (ownN N own) && (own2.all fun i => decide (i ∈ own)) && okI nm N sc fb tge it iter && okT nm N (relS scope sc) (fnB scope) false own tg tge && okC nm N (relS scope sc) (fnB scope) c ifs &&
        okI nm N (relS scope sc) (fnB scope) tge2 it2 iter2 && okT nm N (relS scope sc) (fnB scope) false own2 tg2 tge2 && okC nm N (relS scope sc) (fnB scope) c2 ifs2 && okE nm N (relS scope sc) (fnB scope) false a elt
    | _ => false
  | .dc a b (.mk tg it c) own, e => match e with
    | .DictComp ke ve [⟨tge, iter, ifs, 0⟩] scope _ => notSet iter && blkC N sc scope (ownN N own) && okI nm N sc fb tge it iter && okT nm N (relS scope sc) (fnB scope) false own tg tge && okC nm N (relS scope sc) (fnB scope) c ifs && okE nm N (relS scope sc) (fnB scope) false a ke && okE nm N (relS scope sc) (fnB scope) false b ve
    | _ => false
  | _, _ => false
def okEs (nm : Nm) (N : List Str) (sc : Scope) (fb : Str → Bool) : Exs → List Expr → Bool
  | .nil, l => l.isEmpty
  | .cons a r, l => match l with
    | e :: es => notStar e && okE nm N sc fb false a e && okEs nm N sc fb r es
    | [] => false
def okO (nm : Nm) (N : List Str) (sc : Scope) (fb : Str → Bool) : Op → Option Expr → Bool
  | .no, o => o.isNone
  | .yes a, o => match o with
    | some e => okE nm N sc fb false a e
    | none => false
/-- keys and values by turns -/
def okP (nm : Nm) (N : List Str) (sc : Scope) (fb : Str → Bool) : Exs → List (Option Expr) → List Expr → Bool
  | .nil, ks, vs => ks.isEmpty && vs.isEmpty
  | .cons a (.cons b r), ks, vs => match ks, vs with
    | some k :: ks, v :: vs => okE nm N sc fb false a k && okE nm N sc fb false b v && okP nm N sc fb r ks vs
    | _, _ => false
  | _, _, _ => false
/-- a clause's test -/
def okC (nm : Nm) (N : List Str) (sc : Scope) (fb : Str → Bool) : Op → List Expr → Bool
  | .no, l => l.isEmpty
  | .yes a, l => match l with
    | [e] => okE nm N sc fb true a e
    | _ => false
/-- what is walked, with the target tg -/
def okI (nm : Nm) (N : List Str) (sc : Scope) (fb : Str → Bool) (tg : Expr) : It → Expr → Bool
  | .vals a, e => okE nm N sc fb false a e
  | .valT x ds, e => match e with
    | .Name y _ => decide (x = y) && gloB sc x && dbgB x && decide (nm.tp x = some ds)
    | _ => false
  | .rng1 a, e => match e with
    | .Call (.Name x _) [l] [] _ => (x == "range") && nm.free x && gloB sc x && notStar l && okE nm N sc fb false a l
    | _ => false
  | .rng2 a b, e => match e with
    | .Call (.Name x _) [l, r] [] _ => (x == "range") && nm.free x && gloB sc x && notStar l && notStar r && okE nm N sc fb false a l && okE nm N sc fb false b r
    | _ => false
  | .zip a b, e => match e with
    | .Call (.Name x _) [l, r] [] _ => (x == "zip") && nm.free x && gloB sc x && notStar l && notStar r && isTupE tg && okE nm N sc fb false a l && okE nm N sc fb false b r
    | _ => false
  | .enum a, e => match e with
    | .Call (.Name x _) [l] [] _ => (x == "enumerate") && nm.free x && gloB sc x && notStar l && isTupE tg && okE nm N sc fb false a l
    | _ => false
  | .rev a, e => match e with
    | .Call (.Name x _) [l] [] _ => (x == "reversed") && nm.free x && gloB sc x && notStar l && okE nm N sc fb false a l
    | _ => false
/-- a target; st: of a statement; own: the slots that it may set -/
def okT (nm : Nm) (N : List Str) (sc : Scope) (fb : Str → Bool) (st : Bool) (own : List Nat) : Tg → Expr → Bool
  | .name i, e => match e with
    | .Name x _ => decide (N[i]? = some x) && decide (i ∈ own) && (decide (sc.names.lookup x = some .local) || decide (sc.names.lookup x = some .cell) && fb x)
    | _ => false
  | .tup ts, e => match e with
    | .Tuple l _ _ => l.all notStar && okTs nm N sc fb st own ts l
    | _ => false
  | .sub a b, e => match e with
    | .Subscript l r _ => st && notSlice r && okE nm N sc fb false a l && okE nm N sc fb false b r
    | _ => false
  | .fld _ _, _ => false
def okTs (nm : Nm) (N : List Str) (sc : Scope) (fb : Str → Bool) (st : Bool) (own : List Nat) : Tgs → List Expr → Bool
  | .nil, l => l.isEmpty
  | .cons t r, l => match l with
    | e :: es => okT nm N sc fb st own t e && okTs nm N sc fb st own r es
    | [] => false
end
end PX

/-! PXi: an expression of the small language that fits the text does what the text does. -/
namespace PX
open PySem PySem.Spec PyProof.Rows L2
/-- the slots -/
def RS (K : Fr) (u : List Addr) (H : Hp) (σ3 : Sg) (σ : L2.St) : Prop := σ3.length = σ.length ∧ ∀ (i : Nat) (d : D), σ3[i]? = some (some d) → ∃ v, σ[i]? = some (some v) ∧ RV K u H d v
theorem RS.up {K : Fr} {u u' : List Addr} {H H' : Hp} {σ3 : Sg} {σ : L2.St} (S : RS K u H σ3 σ) (l : Later u H u' H') : RS K u' H' σ3 σ :=
  ⟨S.1, fun i d e => let ⟨v, h1, h2⟩ := S.2 i d e; ⟨v, h1, h2.up l⟩⟩
/-- an exception's class and attributes -/
def XR (K : Fr) (ct : Nat → Option Addr) (c : Nat) (fs : List (Str × D)) (u : List Addr) (H : Hp) (cv : Value) (dx : Option Addr) : Prop :=
  ∃ C, ct c = some C ∧ cv = .ref C ∧ (match fs with
    | [] => dx = none
    | _ :: _ => ∃ p vs, dx = some p ∧ H p = some (.xd vs) ∧ RKs K u H fs vs)
/-- a def's promise: what the evaluator tells -/
def spI (K : Fr) (ct : Nat → Option Addr) (T : Prog) (k i : Nat) : Sp := fun vs H Q E => ∃ u h ds, HR K ct u h H ∧ RVs K u H ds vs ∧
  Pg K ct (fun c fs u' h' H' => ∀ cv dx, XR K ct c fs u' H' cv dx → E cv dx H') (RD K) u H (callI T k i ds h) Q
def scV : D → Option V
  | .bl b => some (.bl b)
  | .int i => some (.int i)
  | .str s => some (.str s)
  | _ => none
theorem scV_ok {K : Fr} {u : List Addr} {H : Hp} {d : D} {v : V} (e : scV d = some v) : RV K u H d v := by
  cases d <;> cases e
  · exact .bl _
  · exact .int _
  · exact .str _
/-- an own exception class -/
structure XcOk (K : Fr) (mg : Str → Option Value) (x : Str) (C : Addr) : Prop where
  mg : mg x = some (.ref C)
  kp : PySem.W.keepIn K (.ref C) = true
  sub : PySem.W.subIn K (.ref C) (.type "BaseException") = some true
  ty : PySem.W.typeIn K (.ref C) = some (.type "type")
  made : ∃ (bmB : List Value) (B newId initId : String), ExcBaseFacts B newId initId bmB ∧ PySem.W.excIn K C bmB newId = true
/-- what is true of the program behind its top, at a level of calls -/
structure Wd (P : Program) (w : World) (K : Fr) (mg : Str → Option Value) (base : Heap) (T : Prog) (nm : Nm) (ct : Nat → Option Addr) (k : Nat) : Prop where
  free : ∀ x, nm.free x = true → mg x = none
  gl : ∀ x d, nm.gl x = some d → ∃ uu v, mg x = some uu ∧ RelV v uu ∧ scV d = some v
  tp : ∀ x ds, nm.tp x = some ds → ∃ a vs, mg x = some (.ref a) ∧ (∀ H, SqT K H a vs) ∧ ∀ u H, RVs K u H ds vs
  fn : ∀ x i, nm.fn x = some i → ∃ f fd ps, mg x = some (.ref f) ∧ PySem.W.keepIn K (.ref f) = true ∧ Binds K fd ps [] ∧ FnOk P w K mg base (L2.CX P w) (2 * k) f fd ps (spI K ct T k i)
  cl : ∀ x c, nm.cl x = some c → ∃ C i f fd ps, mg x = some (.ref C) ∧ ct c = some C ∧ T.init c = some i ∧ Mk K C f ∧ Binds K fd ps [] ∧ FnOk P w K mg base (L2.CX P w) (2 * k) f fd ps (spI K ct T k i)
  ex : ∀ x c, nm.ex x = some c → ∃ C, ct c = some C ∧ XcOk K mg x C
  isa : ∀ c c2 C C2 x, ct c = some C → nm.ex x = some c2 → ct c2 = some C2 → PySem.W.exmOne K (.ref C) (.ref C2) = some (T.isa c c2)
  attr : ∀ c C f, ct c = some C → T.attr c f = true → Cls K C ∧ NoAttr K C f
  meth : ∀ c C m i, ct c = some C → T.meth c m = some i → Cls K C ∧ ∃ f fd ps, Meth K C m f ∧ Binds K fd ps [] ∧ FnOk P w K mg base (L2.CX P w) (2 * k) f fd ps (spI K ct T k i)
abbrev Et := Nat → List (Str × D) → List Addr → Hs → Hp → L2.St → Prop
def par (T : Prog) (k : Nat) : Par := ⟨callI T k, T.meth, T.init, T.isa, T.attr, T.wf⟩
/-- where an expression stands -/
structure Cok (T : Prog) (nm : Nm) (ct : Nat → Option Addr) (k : Nat) (X : Cx) (N : List Str) (sc : Scope) (fb : Str → Bool) (E : Et) : Prop where
  wd : Wd X.prog X.w X.K X.mg X.base T nm ct k
  hN : X.N = N
  hs : X.env.scope = sc
  hf : ∀ x, fb x = true → X.fn x = true
  calm : X.calm = true
  room : Room (2 * k + 1) X.A
  nd : N.Nodup
  tk : Takes X fun cv dx σ H => ∃ c fs u h, XR X.K ct c fs u H cv dx ∧ HR X.K ct u h H ∧ E c fs u h H σ
/-- the reading: what the evaluator's answer asks -/
def tX {α β : Type} (X : Cx) (ct : Nat → Option Addr) (E : Et) (Rl : α → Hp → List Addr → Hp → β → Prop) (g : Sg → M α) : L2.St → Hp → (β → Hp → Prop) → Prop := fun σ H Q =>
  ∃ u σ3 h, RS X.K u H σ3 σ ∧ HR X.K ct u h H ∧ Pg X.K ct (fun c fs u h H => E c fs u h H σ) Rl u H (g σ3 h) Q
section
variable {T : Prog} {nm : Nm} {ct : Nat → Option Addr} {k : Nat} {X : Cx} {N : List Str} {sc : Scope} {fb : Str → Bool} {E : Et}
/-- an expression, by its raw answer; by its value; a test -/
abbrev PRw (X : Cx) (ct : Nat → Option Addr) (E : Et) (e : Expr) (g : Sg → M Raw) : Prop := PE X e (tX X ct E (RW X.K) g)
abbrev PVl (X : Cx) (ct : Nat → Option Addr) (E : Et) (e : Expr) (g : Sg → M D) : Prop := PE X e (tX X ct E (RD X.K) g)
abbrev PTs (X : Cx) (ct : Nat → Option Addr) (E : Et) (e : Expr) (g : Sg → M Bool) : Prop := PT X e (tX X ct E RE g)
theorem PRw.val {e : Expr} {g : Sg → M Raw} (h : PRw X ct E e g) : PVl X ct E e (fun σ => V3 (g σ)) :=
  PE.imp h fun σ H Q ⟨u, σ3, h, S, R, q⟩ => ⟨u, σ3, h, S, R, q.val⟩
/-- a value, handed on as a raw answer -/
theorem PVl.raw {e : Expr} {g : Sg → M D} (h : PVl X ct E e g) : PRw X ct E e (fun σ => (g σ).bind ret) :=
  PE.imp h fun σ H Q ⟨u, σ3, h, S, R, q⟩ => ⟨u, σ3, h, S, R, q.bind low_W fun d h1 _ u1 H1 v l1 R1 r1 q1 => q1 u1 H1 v Later.refl R1 r1⟩
/-- two values in a row, then an operation that raises nothing -/
theorem two_ops {a b : Expr} {ga gb : Sg → M D} {f : D → D → M Raw} {σ : L2.St} {H : Hp} {Q : VK} (h : tX X ct E (RW X.K) (fun σ => (ga σ).bind fun x => (gb σ).bind fun y => f x y) σ H Q) :
    tX X ct E (RD X.K) ga σ H fun x H1 => tX X ct E (RD X.K) gb σ H1 fun y H2 => ∃ u h d e, HR X.K ct u h H2 ∧ RV X.K u H2 d x ∧ RV X.K u H2 e y ∧ PR X.K ct u H2 (f d e h) Q := by
  obtain ⟨u, σ3, h, S, R, q⟩ := h
  refine ⟨u, σ3, h, S, R, q.bind low_W fun x h1 _ u1 H1 v l1 R1 r1 q1 => ?_⟩
  refine ⟨u1, σ3, h1, S.up l1, R1, q1.bind low_W fun y h2 _ u2 H2 w l2 R2 r2 q2 => ?_⟩
  exact ⟨u2, h2, x, y, R2, RV.up r1 l2, r2, q2.pr⟩
/-- .. then a truth value -/
theorem two_cmp {a b : Expr} {ga gb : Sg → M D} {o : Cop} {σ : L2.St} {H : Hp} {Q : VK} (h : tX X ct E (RW X.K) (fun σ => (ga σ).bind fun x => (gb σ).bind fun y => cmpM o x y) σ H Q) :
    tX X ct E (RD X.K) ga σ H fun x H1 => tX X ct E (RD X.K) gb σ H1 fun y H2 => ∃ u h d e b, HR X.K ct u h H2 ∧ RV X.K u H2 d x ∧ RV X.K u H2 e y ∧ cmpD o h d e = some b ∧ Q (.bl b) H2 := by
  obtain ⟨u, σ3, h, S, R, q⟩ := h
  refine ⟨u, σ3, h, S, R, q.bind low_W fun x h1 _ u1 H1 v l1 R1 r1 q1 => ?_⟩
  refine ⟨u1, σ3, h1, S.up l1, R1, q1.bind low_W fun y h2 _ u2 H2 w l2 R2 r2 q2 => ?_⟩
  unfold cmpM at q2
  cases e : cmpD o h2 x y with
  | none => rw [e] at q2; exact q2.elim
  | some b =>
    rw [e] at q2
    exact ⟨u2, h2, x, y, b, R2, RV.up r1 l2, r2, e, q2 u2 H2 (.bl b) Later.refl R2 (.bl b)⟩
variable (C : Cok T nm ct k X N sc fb E)
include C
theorem Cok.u64 : X.A.units + 64 < cLine := by have := C.room.un; omega
theorem Cok.u1 : X.A.units + 1 < cLine := by have := C.room.un; omega
theorem e_var {i : Nat} {x : Str} {pos : Pos} (hi : N[i]? = some x) (hv : visB sc x = true) (hd : dbgB x = true) : PRw X ct E (.Name x pos) (varD · i) := by
  simp only [dbgB, Bool.and_eq_true, Bool.not_eq_true', decide_eq_false_iff_not] at hd
  have vis : Vis X.env.scope x := by
    rw [C.hs]
    unfold visB at hv
    unfold Vis
    split at hv
    · exact .inl (by assumption)
    · exact .inr (.inl (by assumption))
    · exact .inr (.inr (by assumption))
    · cases hv
  refine PE.imp (pe_var (by rw [C.hN]; exact hi) vis hd.1.1 hd.1.2) fun σ H Q ⟨u, σ3, h, S, R, q⟩ => ?_
  simp only [varD] at q
  cases e : σ3[i]? with
  | none => rw [e] at q; exact q.elim
  | some o =>
    rw [e] at q
    cases o with
    | none => exact q.elim
    | some d =>
      obtain ⟨v, h1, h2⟩ := S.2 i d e
      exact ⟨v, h1, q u H v Later.refl R h2⟩
omit C in
theorem e_con {d : D} {c : Const} {n : Nat} {pos : Pos} (h : conB d c = true) : PRw X ct E (.Constant c n pos) fun _ => ret d := by
  have fin : ∀ {v : V}, PE X (.Constant c n pos) (tC v) → (∀ u H, RV X.K u H d v) → PRw X ct E (.Constant c n pos) fun _ => ret d := fun {v} h1 h2 =>
    PE.imp h1 fun σ H Q ⟨u, σ3, h, S, R, q⟩ => q u H v Later.refl R (h2 u H)
  cases d with
  | non =>
    cases c with
    | none => exact fin pe_non fun _ _ => .non
    | _ => cases h
  | bl b =>
    cases c with
    | bool b2 =>
      have e : b = b2 := by simpa [conB] using h
      subst e
      exact fin pe_bl fun _ _ => .bl b
    | _ => cases h
  | int b =>
    cases c with
    | int b2 =>
      have e : b = b2 := by simpa [conB] using h
      subst e
      exact fin pe_int fun _ _ => .int b
    | _ => cases h
  | str b =>
    cases c with
    | str b2 =>
      have e : b = b2 := by simpa [conB] using h
      subst e
      exact fin pe_str fun _ _ => .str b
    | _ => cases h
  | _ => cases h
theorem e_gl {x : Str} (h : gloB sc x = true) : Gl X x := by
  show X.env.scope.names.lookup x = some .globalImplicit
  rw [C.hs]
  unfold gloB at h
  split at h
  · assumption
  · cases h
theorem e_glo {x : Str} {d : D} {pos : Pos} (h1 : gloB sc x = true) (h2 : dbgB x = true) (h3 : nm.gl x = some d) : PRw X ct E (.Name x pos) fun _ => ret d := by
  simp only [dbgB, Bool.and_eq_true, Bool.not_eq_true'] at h2
  obtain ⟨uu, v, e1, e2, e3⟩ := C.wd.gl x d h3
  exact PE.imp (pe_glob (e_gl C h1) e1 e2 h2.1.1) fun σ H Q ⟨u, σ3, h, S, R, q⟩ => q u H v Later.refl R (scV_ok e3)
theorem e_bin {o : Bop} {op : Operator} {l r : Expr} {ga gb : Sg → M Raw} {pos : Pos} (h : bopB o op = true) (ha : PRw X ct E l ga) (hb : PRw X ct E r gb) :
    PRw X ct E (.BinOp l op r pos) fun σ => (V3 (ga σ)).bind fun x => (V3 (gb σ)).bind fun y => binD o x y := by
  have fin : OpS X ct (binaryOp op) (binD o) → PRw X ct E (.BinOp l op r pos) fun σ => (V3 (ga σ)).bind fun x => (V3 (gb σ)).bind fun y => binD o x y := fun ho =>
    PE.imp (pe_op ho (PRw.val ha) (PRw.val hb)) fun σ H Q z => two_ops (a := l) (b := r) z
  cases o <;> cases op <;> first
    | (cases h; done)
    | exact fin bin_add
    | exact fin bin_sub
    | exact fin bin_mod
    | exact fin bin_fdiv
    | exact fin bin_pow
    | exact fin bin_mul
theorem e_neg {l : Expr} {ga : Sg → M Raw} {pos : Pos} (ha : PRw X ct E l ga) : PRw X ct E (.UnaryOp .USub l pos) fun σ => (V3 (ga σ)).bind fun x => match x with
    | .int i => ret (.int (-i))
    | _ => M.stuck := by
  refine PE.imp (pe_un un_neg (PRw.val ha)) fun σ H Q ⟨u, σ3, h, S, R, q⟩ => ⟨u, σ3, h, S, R, q.bind low_W fun x h1 _ u1 H1 v l1 R1 r1 q1 => ?_⟩
  have r1 : RV X.K u1 H1 x v := r1
  cases r1 with
  | int i => exact ⟨i, rfl, q1 u1 H1 (.int (-i)) Later.refl R1 (.int _)⟩
  | _ => exact q1.elim
/-- the comparison's own rule -/
theorem cm_ok {o : Cop} {op : CmpOp} (h : copB o op = true) : CmS X ct op o := by
  cases o <;> cases op <;> first
    | (cases h; done)
    | exact cm_eq (Cok.u64 C)
    | exact cm_ne (Cok.u64 C)
    | exact cm_lt
    | exact cm_le
    | exact cm_gt
    | exact cm_ge
    | exact cm_is
    | exact cm_isnot
    | exact cm_in (Cok.u1 C)
    | exact cm_nin (Cok.u1 C)
omit C in
theorem noMark {op : CmpOp} {r : Expr} (h : notSet r = true) : behindInMarks op r = false := by
  cases r <;> first
    | rfl
    | cases h
omit C in
theorem noMarks {p1 p2 : CmpOp} {m r : Expr} (h : notSet r = true) : lastMarks [p1, p2] [m, r] = false := noMark h
theorem e_cmp {o : Cop} {op : CmpOp} {l r : Expr} {ga gb : Sg → M Raw} {pos : Pos} (h : copB o op = true) (hn : notSet r = true) (ha : PRw X ct E l ga) (hb : PRw X ct E r gb) :
    PRw X ct E (.Compare l [op] [r] pos) fun σ => (V3 (ga σ)).bind fun x => (V3 (gb σ)).bind fun y => cmpM o x y :=
  PE.imp (pe_cmpR (cm_ok C h) (PRw.val ha) (PRw.val hb) (noMark hn)) fun σ H Q z => two_cmp (a := l) (b := r) z
/-- answers with a truth value -/
def Bn (g : Sg → M Raw) : Prop := ∀ σ h r h', g σ h = .ok r h' → ∃ b, r = .val (.bl b)
omit C in
theorem to_test {g : Sg → M Raw} (hb : Bn g) {σ : L2.St} {H : Hp} {Q : Bool → Hp → Prop} (q : tX X ct E RE (fun σ => (V3 (g σ)).bind truM) σ H Q) :
    tX X ct E (RW X.K) g σ H fun x H' => ∃ kk, x = .bl kk ∧ Q kk H' := by
  obtain ⟨u, σ3, h, S, R, q⟩ := q
  refine ⟨u, σ3, h, S, R, ?_⟩
  simp only [V3, M.bind] at q
  cases e : g σ3 h with
  | ok r h1 =>
    obtain ⟨b, rfl⟩ := hb _ _ _ _ e
    rw [e] at q
    intro u1 H1 v l1 R1 r1
    have r1 : RV X.K u1 H1 (.bl b) v := r1
    cases r1
    exact ⟨b, rfl, q u1 H1 b l1 R1 rfl⟩
  | err c fs h1 => rw [e] at q; exact q
  | stuck => rw [e] at q; exact q
omit C in
theorem M.bind_ok {α β : Type} {m : M α} {f : α → M β} {h h' : Hs} {b : β} (e : M.bind m f h = .ok b h') : ∃ a h1, m h = .ok a h1 ∧ f a h1 = .ok b h' := by
  unfold M.bind at e
  cases q : m h with
  | ok a h1 => rw [q] at e; exact ⟨a, h1, rfl, e⟩
  | err c fs h1 => rw [q] at e; cases e
  | stuck => rw [q] at e; cases e
omit C in
theorem cmpM_bn {o : Cop} {x y : D} {h h' : Hs} {r : Raw} (e : cmpM o x y h = .ok r h') : ∃ b, r = .val (.bl b) := by
  unfold cmpM at e
  split at e
  · cases e; exact ⟨_, rfl⟩
  · cases e
omit C in
theorem bn_cmp {ga gb : Sg → M D} {o : Cop} : Bn fun σ => (ga σ).bind fun x => (gb σ).bind fun y => cmpM o x y := fun σ h r h' e => by
  obtain ⟨x, h1, _, e⟩ := M.bind_ok e
  obtain ⟨y, h2, _, e⟩ := M.bind_ok e
  exact cmpM_bn e
/-- a comparison as a test -/
theorem t_cmp {o : Cop} {op : CmpOp} {l r : Expr} {ga gb : Sg → M Raw} {pos : Pos} (h : copB o op = true) (hn : notSet r = true) (ha : PRw X ct E l ga) (hb : PRw X ct E r gb) :
    PTs X ct E (.Compare l [op] [r] pos) fun σ => (V3 ((V3 (ga σ)).bind fun x => (V3 (gb σ)).bind fun y => cmpM o x y)).bind truM :=
  PT.imp (pt_cmpR (cm_ok C h) (PRw.val ha) (PRw.val hb) (noMark hn)) fun σ H Q q => two_cmp (a := l) (b := r) (to_test bn_cmp q)
/-- a o1 b o2 c -/
def chnD (o1 o2 : Cop) (ma mb mc : M D) : M Raw := ma.bind fun x => mb.bind fun y => (cmpM o1 x y).bind fun r => if rawT r then mc.bind fun z => cmpM o2 y z else ret (.bl false)
omit C in
theorem bn_chn {ga gb gc : Sg → M D} {o1 o2 : Cop} : Bn fun σ => chnD o1 o2 (ga σ) (gb σ) (gc σ) := fun σ h r h' e => by
  obtain ⟨x, h1, _, e⟩ := M.bind_ok e
  obtain ⟨y, h2, _, e⟩ := M.bind_ok e
  obtain ⟨z, h3, _, e⟩ := M.bind_ok e
  split at e
  · obtain ⟨y, h2, _, e⟩ := M.bind_ok e
    exact cmpM_bn e
  · cases e; exact ⟨_, rfl⟩
omit C in
theorem three_chn {ga gb gc : Sg → M D} {o1 o2 : Cop} {σ : L2.St} {H : Hp} {Q : VK} (h : tX X ct E (RW X.K) (fun σ => chnD o1 o2 (ga σ) (gb σ) (gc σ)) σ H Q) :
    tChain (fun x y H Q => ∃ u h d e b, HR X.K ct u h H ∧ RV X.K u H d x ∧ RV X.K u H e y ∧ cmpD o1 h d e = some b ∧ Q (.bl b) H) (fun x y H Q => ∃ u h d e b, HR X.K ct u h H ∧ RV X.K u H d x ∧ RV X.K u H e y ∧ cmpD o2 h d e = some b ∧ Q (.bl b) H)
      (tX X ct E (RD X.K) ga) (tX X ct E (RD X.K) gb) (tX X ct E (RD X.K) gc) σ H Q := by
  obtain ⟨u, σ3, h, S, R, q⟩ := h
  refine ⟨u, σ3, h, S, R, q.bind low_W fun x h1 _ u1 H1 v l1 R1 r1 q1 => ?_⟩
  refine ⟨u1, σ3, h1, S.up l1, R1, q1.bind low_W fun y h2 _ u2 H2 w l2 R2 r2 q2 => ?_⟩
  unfold M.bind cmpM at q2
  cases e : cmpD o1 h2 x y with
  | none => simp only [e] at q2; exact q2.elim
  | some b =>
    simp only [e] at q2
    refine ⟨u2, h2, x, y, b, R2, RV.up r1 l2, r2, e, b, rfl, ?_⟩
    cases b with
    | false => exact q2 u2 H2 (.bl false) Later.refl R2 (.bl false)
    | true =>
      have q2 : Pg X.K ct (fun c fs u h H => E c fs u h H σ) (RW X.K) u2 H2 (((gc σ3).bind fun z => cmpM o2 y z) h2) Q := q2
      refine ⟨u2, σ3, h2, (S.up l1).up l2, R2, q2.bind low_W fun z h3 _ u3 H3 w3 l3 R3 r3 q3 => ?_⟩
      unfold cmpM at q3
      cases e3 : cmpD o2 h3 y z with
      | none => rw [e3] at q3; exact q3.elim
      | some b =>
        rw [e3] at q3
        exact ⟨u3, h3, y, z, b, R3, RV.up r2 l3, r3, e3, q3 u3 H3 (.bl b) Later.refl R3 (.bl b)⟩
theorem e_chn {o1 o2 : Cop} {p1 p2 : CmpOp} {l m r : Expr} {ga gb gc : Sg → M Raw} {pos : Pos} (h : copB o1 p1 = true) (h2 : copB o2 p2 = true) (hn : notSet r = true) (ha : PRw X ct E l ga) (hb : PRw X ct E m gb) (hc : PRw X ct E r gc) :
    PRw X ct E (.Compare l [p1, p2] [m, r] pos) fun σ => chnD o1 o2 (V3 (ga σ)) (V3 (gb σ)) (V3 (gc σ)) :=
  PE.imp (pe_chain (cm_ok C h) (cm_ok C h2) (PRw.val ha) (PRw.val hb) (PRw.val hc) (noMarks hn)) fun σ H Q z => three_chn z
theorem t_chn {o1 o2 : Cop} {p1 p2 : CmpOp} {l m r : Expr} {ga gb gc : Sg → M Raw} {pos : Pos} (h : copB o1 p1 = true) (h2 : copB o2 p2 = true) (hn : notSet r = true) (ha : PRw X ct E l ga) (hb : PRw X ct E m gb) (hc : PRw X ct E r gc) :
    PTs X ct E (.Compare l [p1, p2] [m, r] pos) fun σ => (V3 (chnD o1 o2 (V3 (ga σ)) (V3 (gb σ)) (V3 (gc σ)))).bind truM :=
  PT.imp (pt_chain (cm_ok C h) (cm_ok C h2) (PRw.val ha) (PRw.val hb) (PRw.val hc) (noMarks hn)) fun σ H Q z => three_chn (to_test bn_chn z)
/-- a in T, T a module's tuple -/
def inTD (neg : Bool) (ds : List D) (m : M D) : M Raw := m.bind fun x => if isFlat x && ds.all isFlat then ret (.bl (if neg then !(ds.any fun y => eqD y x) else ds.any fun y => eqD y x)) else M.stuck
omit C in
theorem bn_inT {neg : Bool} {ds : List D} {ga : Sg → M D} : Bn fun σ => inTD neg ds (ga σ) := fun σ h r h' e => by
  obtain ⟨x, h1, _, e⟩ := M.bind_ok e
  split at e
  · cases e; exact ⟨_, rfl⟩
  · cases e
theorem tup_glob {x : Str} {ds : List D} {pos : Pos} (h1 : gloB sc x = true) (h2 : dbgB x = true) (h3 : nm.tp x = some ds) : ∃ a vs, PE X (.Name x pos) (tC (.ref a)) ∧ (∀ H, SqT X.K H a vs) ∧ ∀ u H, RVs X.K u H ds vs := by
  simp only [dbgB, Bool.and_eq_true, Bool.not_eq_true'] at h2
  obtain ⟨a, vs, e1, e2, e3⟩ := C.wd.tp x ds h3
  exact ⟨a, vs, pe_glob (e_gl C h1) e1 rfl h2.1.1, e2, e3⟩
omit C in
theorem op_inT {x : Str} {neg : Bool} {ds : List D} {ga : Sg → M D} {a : Addr} {vs : List V} {σ : L2.St} {H : Hp} {Q : VK} (h1 : ∀ H, SqT X.K H a vs) (h2 : ∀ u H, RVs X.K u H ds vs) (z : tX X ct E (RW X.K) (fun σ => inTD neg ds (ga σ)) σ H Q) :
    tOp (rIn X.K neg) (tX X ct E (RD X.K) ga) (tC (.ref a)) σ H Q := by
  obtain ⟨u, σ3, h, S, R, q⟩ := z
  refine ⟨u, σ3, h, S, R, q.bind low_W fun x h1' _ u1 H1 v l1 R1 r1 q1 => ?_⟩
  split at q1
  · rename_i hf
    simp only [Bool.and_eq_true] at hf
    refine ⟨a, vs, rfl, .inr (h1 H1), flat_of r1 hf.1, flats_of (h2 u1 H1) hf.2, ?_⟩
    have e : inV v vs = ds.any fun y => eqD y x := any_flat r1 hf.1 (h2 u1 H1) hf.2
    rw [e]
    exact q1 u1 H1 _ Later.refl R1 (.bl _)
  · exact q1.elim
theorem e_inT {x : Str} {neg : Bool} {ds : List D} {op : CmpOp} {l : Expr} {ga : Sg → M Raw} {p pos : Pos} (ho : (if neg then decide (op = .NotIn) else decide (op = .In)) = true) (h1 : gloB sc x = true) (h2 : dbgB x = true) (h3 : nm.tp x = some ds) (ha : PRw X ct E l ga) :
    PRw X ct E (.Compare l [op] [.Name x p] pos) (fun σ => inTD neg ds (V3 (ga σ))) ∧ PTs X ct E (.Compare l [op] [.Name x p] pos) fun σ => (V3 (inTD neg ds (V3 (ga σ)))).bind truM := by
  obtain ⟨a, vs, e1, e2, e3⟩ := tup_glob C (pos := p) h1 h2 h3
  have fin : OpR X (compareOp op) (rIn X.K neg) → PRw X ct E (.Compare l [op] [.Name x p] pos) (fun σ => inTD neg ds (V3 (ga σ))) ∧ PTs X ct E (.Compare l [op] [.Name x p] pos) fun σ => (V3 (inTD neg ds (V3 (ga σ)))).bind truM := fun ho =>
    ⟨PE.imp (pe_cmpR ho (PRw.val ha) e1 (noMark rfl)) fun σ H Q z => op_inT (x := x) e2 e3 z, PT.imp (pt_cmpR ho (PRw.val ha) e1 (noMark rfl)) fun σ H Q z => op_inT (x := x) e2 e3 (to_test bn_inT z)⟩
  cases neg with
  | true =>
    obtain rfl : op = .NotIn := by simpa using ho
    exact fin op_notIn_seq
  | false =>
    obtain rfl : op = .In := by simpa using ho
    exact fin op_in_seq
end
end PX

/-! PXj: more kinds of expressions: and, or, not, displays, items, attributes, calls. -/
namespace PX
open PySem PySem.Spec PyProof.Rows L2
theorem M.bind_assoc {α β γ : Type} (m : M α) (f : α → M β) (g : β → M γ) : (m.bind f).bind g = m.bind fun a => (f a).bind g := by
  funext h
  unfold M.bind
  cases m h <;> rfl
theorem M.pure_bind {α β : Type} (a : α) (f : α → M β) : (M.pure a).bind f = f a := rfl
theorem M.bind_pure {α : Type} (m : M α) : m.bind M.pure = m := by
  funext h
  unfold M.bind
  cases m h <;> rfl
theorem ret_toD (d : D) : (ret d).bind toD = M.pure d := rfl
section
variable {T : Prog} {nm : Nm} {ct : Nat → Option Addr} {k : Nat} {X : Cx} {N : List Str} {sc : Scope} {fb : Str → Bool} {E : Et}
theorem truM_one {d : D} {α : Type} {f : Bool → M α} {h : Hs} {b : Bool} (e : truth h d = some b) : (truM d).bind f h = f b h := by
  unfold M.bind truM
  rw [e]
theorem Pg.truth {α β : Type} {Rl : α → Hp → List Addr → Hp → β → Prop} {Er : Ft} {u : List Addr} {h : Hs} {H : Hp} {d : D} {f : Bool → M α} {Q : β → Hp → Prop} (q : Pg X.K ct Er Rl u H ((truM d).bind f h) Q) : ∃ b, PX.truth h d = some b ∧ Pg X.K ct Er Rl u H (f b h) Q := by
  cases e : PX.truth h d with
  | none =>
    unfold M.bind truM at q
    rw [e] at q
    exact q.elim
  | some b => exact ⟨b, rfl, by rw [truM_one e] at q; exact q⟩
/-! ### and, or, not: the evaluator's own words -/
def andD (ma mb : M D) : M Raw := ma.bind fun x => (truM x).bind fun c => if c then mb.bind ret else ret x
def orD (ma mb : M D) : M Raw := ma.bind fun x => (truM x).bind fun c => if c then ret x else mb.bind ret
def notD (ma : M D) : M Raw := ma.bind fun x => (truM x).bind fun c => ret (.bl (!c))
theorem e_and {a b : Expr} {rest : List Expr} {ga : Sg → M Raw} {gb : Sg → M Raw} {pos : Pos} (ha : PRw X ct E a ga) (hb : PRw X ct E (.BoolOp .And (b :: rest) pos) gb) :
    PRw X ct E (.BoolOp .And (a :: b :: rest) pos) fun σ => andD (V3 (ga σ)) (V3 (gb σ)) := by
  refine ⟨fun pins s σ H Q I ⟨u, σ3, h, S, R, q⟩ => ?_⟩
  refine BoolOp_and (thn ((PRw.val ha).run pins s σ H (fun v H1 => ∃ u1 h1 x, HR X.K ct u1 h1 H1 ∧ RS X.K u1 H1 σ3 σ ∧ RV X.K u1 H1 x v ∧ Pg X.K ct _ (RW X.K) u1 H1 ((truM x).bind (fun c => if c then (V3 (gb σ3)).bind ret else ret x) h1) Q) I ⟨u, σ3, h, S, R, q.bind low_W fun x h1 _ u1 H1 v l1 R1 r1 q1 => ⟨u1, h1, x, R1, S.up l1, r1, q1⟩⟩) ?_)
  rintro v s1 ⟨x, H1, I1, rx, u1, h1, d, R1, S1, r1, q1⟩
  obtain ⟨c, e, q2⟩ := q1.truth
  refine thn (tr_ok pins s1 σ H1 x v (fun b H2 => b = c ∧ H2 = H1) I1 rx ⟨u1, h1, d, c, R1, r1, e, rfl, rfl⟩) ?_
  rintro b s2 ⟨H2, I2, rfl, rfl⟩
  cases b with
  | true => exact (PVl.raw (PRw.val hb)).run pins s2 σ H2 Q I2 ⟨u1, σ3, h1, S1, R1, q2⟩
  | false => exact ⟨x, H2, I2, rx, q2 u1 H2 x Later.refl R1 r1⟩
theorem e_or {a b : Expr} {rest : List Expr} {ga : Sg → M Raw} {gb : Sg → M Raw} {pos : Pos} (ha : PRw X ct E a ga) (hb : PRw X ct E (.BoolOp .Or (b :: rest) pos) gb) :
    PRw X ct E (.BoolOp .Or (a :: b :: rest) pos) fun σ => orD (V3 (ga σ)) (V3 (gb σ)) := by
  refine ⟨fun pins s σ H Q I ⟨u, σ3, h, S, R, q⟩ => ?_⟩
  refine BoolOp_or (thn ((PRw.val ha).run pins s σ H (fun v H1 => ∃ u1 h1 x, HR X.K ct u1 h1 H1 ∧ RS X.K u1 H1 σ3 σ ∧ RV X.K u1 H1 x v ∧ Pg X.K ct _ (RW X.K) u1 H1 ((truM x).bind (fun c => if c then ret x else (V3 (gb σ3)).bind ret) h1) Q) I ⟨u, σ3, h, S, R, q.bind low_W fun x h1 _ u1 H1 v l1 R1 r1 q1 => ⟨u1, h1, x, R1, S.up l1, r1, q1⟩⟩) ?_)
  rintro v s1 ⟨x, H1, I1, rx, u1, h1, d, R1, S1, r1, q1⟩
  obtain ⟨c, e, q2⟩ := q1.truth
  refine thn (tr_ok pins s1 σ H1 x v (fun b H2 => b = c ∧ H2 = H1) I1 rx ⟨u1, h1, d, c, R1, r1, e, rfl, rfl⟩) ?_
  rintro b s2 ⟨H2, I2, rfl, rfl⟩
  cases b with
  | false => exact (PVl.raw (PRw.val hb)).run pins s2 σ H2 Q I2 ⟨u1, σ3, h1, S1, R1, q2⟩
  | true => exact ⟨x, H2, I2, rx, q2 u1 H2 x Later.refl R1 r1⟩
theorem e_one {op : BoolOp} {a : Expr} {ga : Sg → M Raw} {pos : Pos} (ha : PRw X ct E a ga) : PRw X ct E (.BoolOp op [a] pos) ga := pe_one ha
theorem e_not {a : Expr} {ga : Sg → M Raw} {pos : Pos} (ha : PRw X ct E a ga) : PRw X ct E (.UnaryOp .Not a pos) fun σ => notD (V3 (ga σ)) := by
  refine ⟨fun pins s σ H Q I ⟨u, σ3, h, S, R, q⟩ => ?_⟩
  refine UnaryOp_ (thn ((PRw.val ha).run pins s σ H (fun v H1 => ∃ u1 h1 x, HR X.K ct u1 h1 H1 ∧ RV X.K u1 H1 x v ∧ Pg X.K ct _ (RW X.K) u1 H1 ((truM x).bind (fun c => ret (.bl (!c))) h1) Q) I ⟨u, σ3, h, S, R, q.bind low_W fun x h1 _ u1 H1 v l1 R1 r1 q1 => ⟨u1, h1, x, R1, r1, q1⟩⟩) ?_)
  rintro v s1 ⟨x, H1, I1, rx, u1, h1, d, R1, r1, q1⟩
  obtain ⟨c, e, q2⟩ := q1.truth
  refine not_of (thn (tr_ok pins s1 σ H1 x v (fun b H2 => b = c ∧ H2 = H1) I1 rx ⟨u1, h1, d, c, R1, r1, e, rfl, rfl⟩) ?_)
  rintro b s2 ⟨H2, I2, rfl, rfl⟩
  exact ⟨.bl (!b), H2, I2, rfl, q2 u1 H2 (.bl (!b)) Later.refl R1 (.bl _)⟩
/-! ### .. as tests -/
abbrev PWs (X : Cx) (ct : Nat → Option Addr) (E : Et) (e : Expr) (g : Sg → M Bool) : Prop := PW X e (tX X ct E RE g)
theorem test_and {ma mb : M D} : (V3 (andD ma mb)).bind truM = (ma.bind truM).bind fun c => if c then mb.bind truM else M.pure false := by
  funext h
  simp only [andD, M.bind]
  cases ma h with
  | ok x h1 =>
    simp only [truM]
    cases e : truth h1 x with
    | none => rfl
    | some c =>
      cases c with
      | false => simp [toD, M.pure, e]
      | true => 
        simp only [if_true, M.bind]
        cases mb h1 <;> rfl
  | _ => rfl
theorem test_or {ma mb : M D} : (V3 (orD ma mb)).bind truM = (ma.bind truM).bind fun c => if c then M.pure true else mb.bind truM := by
  funext h
  simp only [orD, M.bind]
  cases ma h with
  | ok x h1 =>
    simp only [truM]
    cases e : truth h1 x with
    | none => rfl
    | some c =>
      cases c with
      | true => simp [toD, M.pure, e]
      | false =>
        simp only [Bool.false_eq_true, if_false, M.bind]
        cases mb h1 <;> rfl
  | _ => rfl
theorem test_not {ma : M D} : (V3 (notD ma)).bind truM = (ma.bind truM).bind fun c => M.pure (!c) := by
  funext h
  simp only [notD, M.bind]
  cases ma h with
  | ok x h1 =>
    simp only [truM]
    cases e : truth h1 x <;> rfl
  | _ => rfl
theorem tt_and {ga gb : Sg → M Bool} {σ : L2.St} {H : Hp} {Q : Bool → Hp → Prop} (z : tX X ct E RE (fun σ => (ga σ).bind fun c => if c then gb σ else M.pure false) σ H Q) : tAnd (tX X ct E RE ga) (tX X ct E RE gb) σ H Q := by
  obtain ⟨u, σ3, h, S, R, q⟩ := z
  refine ⟨u, σ3, h, S, R, q.bind low_E fun c h1 _ u1 H1 b l1 R1 r1 q1 => ?_⟩
  cases r1
  cases c with
  | true => exact ⟨u1, σ3, h1, S.up l1, R1, q1⟩
  | false => exact q1 u1 H1 false Later.refl R1 rfl
theorem tt_or {ga gb : Sg → M Bool} {σ : L2.St} {H : Hp} {Q : Bool → Hp → Prop} (z : tX X ct E RE (fun σ => (ga σ).bind fun c => if c then M.pure true else gb σ) σ H Q) : tOr (tX X ct E RE ga) (tX X ct E RE gb) σ H Q := by
  obtain ⟨u, σ3, h, S, R, q⟩ := z
  refine ⟨u, σ3, h, S, R, q.bind low_E fun c h1 _ u1 H1 b l1 R1 r1 q1 => ?_⟩
  cases r1
  cases c with
  | false => exact ⟨u1, σ3, h1, S.up l1, R1, q1⟩
  | true => exact q1 u1 H1 true Later.refl R1 rfl
theorem PW.imp {e : Expr} {t t' : TT} (he : PW X e t) (k : ∀ σ H Q, t' σ H Q → t σ H Q) : PW X e t' := ⟨fun wh pins s σ H Q I h => he.run wh pins s σ H Q I (k σ H Q h)⟩
theorem t_and {a b : Expr} {rest : List Expr} {ga gb : Sg → M Raw} {pos : Pos} (ha : PTs X ct E a fun σ => (V3 (ga σ)).bind truM) (hb : PWs X ct E (.BoolOp .And (b :: rest) pos) fun σ => (V3 (gb σ)).bind truM) :
    PWs X ct E (.BoolOp .And (a :: b :: rest) pos) fun σ => (V3 (andD (V3 (ga σ)) (V3 (gb σ)))).bind truM := by
  refine PW.imp (pw_and ha hb) fun σ H Q z => tt_and ?_
  simp only [test_and] at z
  exact z
theorem t_and1 {a : Expr} {ga : Sg → M Bool} {pos : Pos} (ha : PTs X ct E a ga) : PWs X ct E (.BoolOp .And [a] pos) ga := pw_and1 ha
theorem t_or {a b : Expr} {rest : List Expr} {ga gb : Sg → M Raw} {pos : Pos} (ha : PTs X ct E a fun σ => (V3 (ga σ)).bind truM) (hb : PWs X ct E (.BoolOp .Or (b :: rest) pos) fun σ => (V3 (gb σ)).bind truM) :
    PWs X ct E (.BoolOp .Or (a :: b :: rest) pos) fun σ => (V3 (orD (V3 (ga σ)) (V3 (gb σ)))).bind truM := by
  refine PW.imp (pw_or ha hb) fun σ H Q z => tt_or ?_
  simp only [test_or] at z
  exact z
theorem t_or1 {a : Expr} {ga : Sg → M Bool} {pos : Pos} (ha : PTs X ct E a ga) : PWs X ct E (.BoolOp .Or [a] pos) ga := pw_or1 ha
theorem t_not {a : Expr} {ga : Sg → M Raw} {pos : Pos} (ha : PTs X ct E a fun σ => (V3 (ga σ)).bind truM) : PTs X ct E (.UnaryOp .Not a pos) fun σ => (V3 (notD (V3 (ga σ)))).bind truM := by
  refine PT.imp (pt_not ha) fun σ H Q z => ?_
  simp only [test_not] at z
  obtain ⟨u, σ3, h, S, R, q⟩ := z
  refine ⟨u, σ3, h, S, R, q.bind low_E fun c h1 _ u1 H1 b l1 R1 r1 q1 => ?_⟩
  cases r1
  exact q1 u1 H1 _ Later.refl R1 rfl
/-- any test that is its value's truth -/
theorem t_plain {e : Expr} {g : Sg → M Raw} (he : PRw X ct E e g) (hp : plainT e = true) : PTs X ct E e fun σ => (V3 (g σ)).bind truM := by
  have hi : ∀ whole, isTrue e X.env whole = (do let v ← whole; standAt e.pos; holding [v] (truthy v)) := by
    intro whole
    cases e with
    | UnaryOp op a p => cases op <;> first | rfl | cases hp
    | BoolOp => cases hp
    | IfExp => cases hp
    | Compare => cases hp
    | _ => rfl
  refine ⟨fun pins s σ H Q I z => isTrue_plain (thn ((PRw.val he).run pins s σ H (fun v H1 => ∃ u h d b, HR X.K ct u h H1 ∧ RV X.K u H1 d v ∧ PX.truth h d = some b ∧ Q b H1) I ?_) fun v s1 ⟨x, H1, I1, r1, q1⟩ => tr_ok pins s1 σ H1 x v Q I1 r1 q1) (hi _)⟩
  obtain ⟨u, σ3, h, S, R, q⟩ := z
  refine ⟨u, σ3, h, S, R, q.bind low_E fun x h1 _ u1 H1 v l1 R1 r1 q1 => ?_⟩
  cases e : truth h1 x with
  | none =>
    unfold truM at q1
    rw [e] at q1
    exact q1.elim
  | some b =>
    unfold truM at q1
    rw [e] at q1
    exact ⟨u1, h1, x, b, R1, r1, e, q1 u1 H1 b Later.refl R1 rfl⟩
theorem e_ite {c a b : Expr} {gc : Sg → M Bool} {ga gb : Sg → M Raw} {pos : Pos} (hc : PTs X ct E c gc) (ha : PRw X ct E a ga) (hb : PRw X ct E b gb) :
    PRw X ct E (.IfExp c a b pos) fun σ => (gc σ).bind fun c => if c then (V3 (ga σ)).bind ret else (V3 (gb σ)).bind ret := by
  refine PE.imp (pe_ifExp hc (PVl.raw (PRw.val ha)) (PVl.raw (PRw.val hb))) fun σ H Q ⟨u, σ3, h, S, R, q⟩ => ⟨u, σ3, h, S, R, q.bind low_W fun c h1 _ u1 H1 b l1 R1 r1 q1 => ?_⟩
  cases r1
  cases c with
  | true => exact ⟨u1, σ3, h1, S.up l1, R1, q1⟩
  | false => exact ⟨u1, σ3, h1, S.up l1, R1, q1⟩
/-! ### lists of expressions -/
abbrev PAs (X : Cx) (ct : Nat → Option Addr) (E : Et) (e : List Expr) (g : Sg → M (List D)) : Prop := PA X e (tX X ct E (RL X.K) g)
theorem star_cons {e : Expr} {es : List Expr} {env : Env} (h : notStar e = true) : starEach (e :: es) env = (false, eval e env) :: starEach es env := by
  cases e <;> first | rfl | cases h
theorem star_any {env : Env} {pos : Pos} : ∀ {es : List Expr}, es.all notStar = true → (backTo pos (starEach es env)).any (·.1) = false
  | [], _ => rfl
  | e :: es, h => by
    simp only [List.all_cons, Bool.and_eq_true] at h
    rw [star_cons h.1]
    show (false || (backTo pos (starEach es env)).any (·.1)) = false
    rw [star_any h.2]
    rfl
theorem star_all {env : Env} {pos : Pos} : ∀ {es : List Expr}, es.all notStar = true → (backTo pos (starEach es env)).all (fun x => !x.1) = true
  | [], _ => rfl
  | e :: es, h => by
    simp only [List.all_cons, Bool.and_eq_true] at h
    rw [star_cons h.1]
    show (true && (backTo pos (starEach es env)).all (fun x => !x.1)) = true
    rw [star_all h.2]
    rfl
theorem a_nil : PAs X ct E [] fun _ => M.pure [] := PA.imp pa_nil fun σ H Q ⟨u, σ3, h, S, R, q⟩ => q u H [] Later.refl R .nil
theorem a_cons {e : Expr} {es : List Expr} {ga : Sg → M Raw} {gr : Sg → M (List D)} (hn : notStar e = true) (ha : PRw X ct E e ga) (hr : PAs X ct E es gr) : PAs X ct E (e :: es) fun σ => (V3 (ga σ)).bind fun x => (gr σ).bind fun xs => M.pure (x :: xs) :=
  PA.imp (pa_cons (PRw.val ha) hr (star_cons hn)) fun σ H Q ⟨u, σ3, h, S, R, q⟩ => ⟨u, σ3, h, S, R, q.bind low_L fun x h1 _ u1 H1 v l1 R1 r1 q1 =>
    ⟨u1, σ3, h1, S.up l1, R1, q1.bind low_L fun xs h2 _ u2 H2 vs l2 R2 r2 q2 => q2 u2 H2 (v :: vs) Later.refl R2 (.cons (RV.up r1 l2) r2)⟩⟩
theorem e_tup {l : List Expr} {x1 : Nat} {g : Sg → M (List D)} {pos : Pos} (h : PAs X ct E l g) : PRw X ct E (.Tuple l x1 pos) fun σ => (g σ).bind fun xs => if xs.length ≤ lim then ret (.tup xs) else M.stuck := by
  refine PE.imp (pe_tup h) fun σ H Q ⟨u, σ3, h, S, R, q⟩ => ⟨u, σ3, h, S, R, q.bind low_W fun xs h1 _ u1 H1 vs l1 R1 r1 q1 => ?_⟩
  have r1 : RVs X.K u1 H1 xs vs := r1
  split at q1
  · rename_i hz
    exact ⟨by rw [← r1.length, ← lim_eq]; exact hz, fun p hp => q1.pr.newT R1 r1 hp⟩
  · exact q1.elim
theorem e_lst {l : List Expr} {g : Sg → M (List D)} {pos : Pos} (h : PAs X ct E l g) : PRw X ct E (.List l pos) fun σ => (g σ).bind fun xs => if xs.length ≤ lim then retN xs else M.stuck := by
  refine PE.imp (pe_lst h) fun σ H Q ⟨u, σ3, h, S, R, q⟩ => ⟨u, σ3, h, S, R, q.bind low_W fun xs h1 _ u1 H1 vs l1 R1 r1 q1 => ?_⟩
  have r1 : RVs X.K u1 H1 xs vs := r1
  split at q1
  · rename_i hz
    exact ⟨by rw [← r1.length, ← lim_eq]; exact hz, fun p hp => q1.pr.newL R1 r1 hp⟩
  · exact q1.elim
/-- the value, a new list of it locked -/
theorem e_fz {e : Expr} {g : Sg → M Raw} (h : PRw X ct E e g) : PRw X ct E e fun σ => (g σ).bind fzR :=
  PE.imp (pe_lock h) fun σ H Q ⟨u, σ3, h, S, R, q⟩ => ⟨u, σ3, h, S, R, q.lock⟩
variable (C : Cok T nm ct k X N sc fb E)
include C
theorem e_idx {a b : Expr} {ga gb : Sg → M Raw} {pos : Pos} (hn : notSlice b = true) (ha : PRw X ct E a ga) (hb : PRw X ct E b gb) :
    PRw X ct E (.Subscript a b pos) fun σ => (V3 (ga σ)).bind fun x => (V3 (gb σ)).bind fun y => idxD x y := by
  have hs : PlainIx b := by
    intro o i
    cases b <;> first | rfl | cases hn
  exact PE.imp (pe_ix (ix_ok (Cok.u1 C)) (PRw.val ha) (PRw.val hb) hs) fun σ H Q z => two_ops (a := a) (b := b) z
end
end PX

/-! PXk: slices, attributes, calls of every kind. -/
namespace PX
open PySem PySem.Spec PyProof.Rows L2
section
variable {α β : Type} {K : Fr} {ct : Nat → Option Addr} {Rl : α → Hp → List Addr → Hp → β → Prop} {u : List Addr} {h : Hs} {H : Hp}
theorem Pg.wish {E E' : Ft} {r : Res α} {Q : β → Hp → Prop} (q : Pg K ct E Rl u H r Q) (k : ∀ c fs u' h' H', HR K ct u' h' H' → E c fs u' h' H' → E' c fs u' h' H') : Pg K ct E' Rl u H r Q := by
  cases r with
  | ok a h' => exact q
  | err c fs h' => exact fun u' H' l R => k c fs u' h' H' R (q u' H' l R)
  | stuck => exact q
end
section
variable {T : Prog} {nm : Nm} {ct : Nat → Option Addr} {k : Nat} {X : Cx} {N : List Str} {sc : Scope} {fb : Str → Bool} {E : Et}
/-! ### slices -/
abbrev POs (X : Cx) (ct : Nat → Option Addr) (E : Et) (e : Option Expr) (g : Sg → M (Option Int)) : Prop := PO X e (tX X ct E RE g)
theorem o_no : POs X ct E none fun _ => M.pure none := PO.imp po_none fun σ H Q ⟨u, σ3, h, S, R, q⟩ => q u H none Later.refl R rfl
theorem o_yes {e : Expr} {g : Sg → M Raw} (he : PRw X ct E e g) : POs X ct E (some e) fun σ => (V3 (g σ)).bind fun x => (intM x).bind fun i => M.pure (some i) := by
  refine PO.imp (po_some (PRw.val he)) fun σ H Q ⟨u, σ3, h, S, R, q⟩ => ⟨u, σ3, h, S, R, q.bind low_E fun x h1 _ u1 H1 v l1 R1 r1 q1 => ?_⟩
  have r1 : RV X.K u1 H1 x v := r1
  cases r1 with
  | int i => exact ⟨i, rfl, q1 u1 H1 (some i) Later.refl R1 rfl⟩
  | _ => exact q1.elim
theorem e_sl {e : Expr} {lo hi : Option Expr} {g : Sg → M Raw} {gl gu : Sg → M (Option Int)} {p pos : Pos} (he : PRw X ct E e g) (hl : POs X ct E lo gl) (hu : POs X ct E hi gu) :
    PRw X ct E (.Subscript e (.Slice lo hi none p) pos) fun σ => (V3 (g σ)).bind fun x => (gl σ).bind fun l => (gu σ).bind fun u => slD x l u := by
  refine PE.imp (pe_slice (sl_ok (ct := ct)) (PRw.val he) hl hu) fun σ H Q ⟨u, σ3, h, S, R, q⟩ => ⟨u, σ3, h, S, R, q.bind low_W fun x h1 _ u1 H1 v l1 R1 r1 q1 => ?_⟩
  refine ⟨u1, σ3, h1, S.up l1, R1, q1.bind low_W fun l h2 _ u2 H2 l' l2 R2 r2 q2 => ?_⟩
  refine ⟨u2, σ3, h2, (S.up l1).up l2, R2, q2.bind low_W fun w h3 _ u3 H3 w' l3 R3 r3 q3 => ?_⟩
  cases r2
  cases r3
  exact ⟨u3, h3, x, R3, (RV.up r1 l2).up l3, q3.pr⟩
theorem base_of {e : Expr} {f : Str} {env : Env} (h : notCall0 e = true) : attributeBase e f env (eval e env) = eval e env := by
  cases e with
  | Call a b c p => 
    cases a <;> first
      | rfl
      | (cases b <;> first
          | rfl
          | (cases c <;> first
              | rfl
              | cases h))
  | _ => rfl
variable (C : Cok T nm ct k X N sc fb E)
include C
theorem e_att {e : Expr} {f : Str} {g : Sg → M Raw} {pos : Pos} (hn : notCall0 e = true) (he : PRw X ct E e g) : PRw X ct E (.Attribute e f pos) fun σ => (V3 (g σ)).bind fun x => attD T.attr x f := by
  refine PE.imp (pe_fld (PRw.val he) (base_of hn)) fun σ H Q ⟨u, σ3, h, S, R, q⟩ => ⟨u, σ3, h, S, R, q.bind low_W fun x h1 _ u1 H1 v l1 R1 r1 q1 => ?_⟩
  have r1 : RV X.K u1 H1 x v := r1
  cases r1 with
  | @ref n a ha =>
    unfold attD at q1
    cases hn : h1[n]? with
    | none => simp only [hn] at q1; exact q1.elim
    | some o =>
      cases o with
      | ins c fs =>
        simp only [hn] at q1
        split at q1
        · rename_i hc
          obtain ⟨Ca, dx, vs, ec, ea, rk⟩ := R1.ob n _ a hn ha
          obtain ⟨hcl, hno⟩ := C.wd.attr c Ca f ec hc
          rcases rk.lookup f with ⟨e1, e2⟩ | ⟨d, w, e1, e2, rw'⟩
          · rw [e1] at q1; exact q1.elim
          · rw [e1] at q1
            exact ⟨a, Ca, dx, vs, w, rfl, ea, hcl, hno, e2, q1 u1 H1 w Later.refl R1 rw'⟩
        · exact q1.elim
      | _ => simp only [hn] at q1; exact q1.elim
  | _ => exact q1.elim
/-! ### calls -/
omit C in
/-- the arguments of a call -/
theorem args_run {l : List Expr} {g : Sg → M (List D)} {f : Value} {first : List Value} {pos : Pos} {pins : List (Addr × Obj)} {s : Shared} {σ : L2.St} {H : Hp} {Q' : List V → Hp → Prop} {Q : Value → Shared → Prop} (hst : l.all notStar = true) (ha : PAs X ct E l g) (hk : PySem.W.keepIn X.K f = true)
    (hnil : l = [] → g = fun _ => M.pure []) (I : Inv X pins σ H s) (z : tX X ct E (RL X.K) g σ H Q')
    (h : ∀ us vs s1 H1, Inv X pins σ H1 s1 → Vals vs us → Q' vs H1 → wpAny (model X.prog X.w) X.A (call f (first ++ us)) Q X.xe s1) :
    wpAny (model X.prog X.w) X.A (callWith pos f first (backTo pos (starEach l X.env)) []) Q X.xe s := by
  cases l with
  | nil =>
    refine PySem.W.callWith_K0 I.kIn hk ?_
    obtain ⟨u, σ3, h', S, R, q⟩ := z
    rw [hnil rfl] at q
    exact h [] [] s H I .nil (q u H [] Later.refl R .nil)
  | cons e es =>
    simp only [List.all_cons, Bool.and_eq_true] at hst
    refine PySem.W.callWith_K (h₀ := X.base) I.ok.mod.kin hk (thn (ha.run pos pins s σ H Q' I z) fun us s1 q => ?_) (star_cons hst.1) (star_any hst.2)
    obtain ⟨vs, H1, I1, r, q⟩ := q
    exact ⟨I1.kIn, h us vs s1 H1 I1 r q⟩
omit C in
/-- what the callee may raise -/
theorem wish_ok {σ : L2.St} {c : Nat} {fs : List (Str × D)} {u : List Addr} {h : Hs} {H : Hp} (R : HR X.K ct u h H) (e : E c fs u h H σ) : ∀ cv dx, XR X.K ct c fs u H cv dx → (WE (fun cv dx σ H => ∃ c fs u h, XR X.K ct c fs u H cv dx ∧ HR X.K ct u h H ∧ E c fs u h H σ) σ : XK) cv dx H :=
  fun cv dx x => ⟨c, fs, u, h, x, R, e⟩
theorem fn_run {i : Nat} {f : Addr} {fd : FuncData} {ps : List Str} {pins : List (Addr × Obj)} {s : Shared} {σ : L2.St} {H : Hp} {Q : VK} {us : List Value} {vs : List V} {u : List Addr} {h : Hs} {ds : List D}
    (F : FnOk X.prog X.w X.K X.mg X.base (L2.CX X.prog X.w) (2 * k) f fd ps (spI X.K ct T k i)) (hb : Binds X.K fd ps []) (I : Inv X pins σ H s) (r : Vals vs us) (R : HR X.K ct u h H) (rs : RVs X.K u H ds vs)
    (q : Pg X.K ct (fun c fs u h H => E c fs u h H σ) (RW X.K) u H (((callI T k i ds).bind ret) h) Q) : wpAny (model X.prog X.w) X.A (call (.ref f) us) (EP X pins σ Q) X.xe s := by
  refine run_fnSD (dvs := []) (ds := []) F (C.room.mono (by omega)) hb .nil (passAt C.tk σ) I r ⟨u, h, ds, R, by rw [List.append_nil]; exact rs, ?_⟩
  refine Pg.wish (q.bind (R1 := RD X.K) low_W fun d h2 _ u2 H2 v l2 R2 r2 q2 => q2 u2 H2 v Later.refl R2 r2) fun c fs u' h' H' R' e => wish_ok R' e
theorem e_call {x : Str} {i : Nat} {l : List Expr} {g : Sg → M (List D)} {p pos : Pos} (h1 : nm.fn x = some i) (h2 : gloB sc x = true) (h3 : dbgB x = true) (hst : l.all notStar = true) (ha : PAs X ct E l g) (hnil : l = [] → g = fun _ => M.pure []) :
    PRw X ct E (.Call (.Name x p) l [] pos) fun σ => (g σ).bind fun xs => (callI T k i xs).bind ret := by
  simp only [dbgB, Bool.and_eq_true, Bool.not_eq_true'] at h3
  obtain ⟨f, fd, ps, e1, e2, e3, F⟩ := C.wd.fn x i h1
  refine ⟨fun pins s σ H Q I ⟨u, σ3, h, S, R, q⟩ => ?_⟩
  refine wpAny_Call_Name_kw (ld_glob I (e_gl C h2) e1 ?_ h3.1.1)
  refine args_run (Q' := fun vs H1 => ∃ u1 h1 ds, HR X.K ct u1 h1 H1 ∧ RVs X.K u1 H1 ds vs ∧ Pg X.K ct (fun c fs u h H => E c fs u h H σ) (RW X.K) u1 H1 (((callI T k i ds).bind ret) h1) Q) hst ha e2 hnil I
    ⟨u, σ3, h, S, R, q.bind low_W fun ds h1 _ u1 H1 vs l1 R1 r1 q1 => ⟨u1, h1, ds, R1, r1, q1⟩⟩ ?_
  rintro us vs s1 H1 I1 r ⟨u1, h1, ds, R1, r1, q1⟩
  exact fn_run C F e3 I1 r R1 r1 q1
/-- o.m(..) of an instance -/
theorem e_meth {o : Expr} {m : Str} {l : List Expr} {ga : Sg → M Raw} {g : Sg → M (List D)} {ap pos : Pos} (hn : notCall0 o = true) (hl : (ap.endLine == pos.line) = true) (hz : l.length < 29) (hst : l.all notStar = true) (ho : PRw X ct E o ga) (ha : PAs X ct E l g) (hnil : l = [] → g = fun _ => M.pure []) :
    PRw X ct E (.Call (.Attribute o m ap) l [] pos) fun σ => (V3 (ga σ)).bind fun x => (recvM (par T k) m x).bind fun i => (g σ).bind fun xs => (callI T k i (x :: xs)).bind ret := by
  refine ⟨fun pins s σ H Q I ⟨u, σ3, h, S, R, q⟩ => ?_⟩
  have hform : methodCallForm (l.length + ([] : List Keyword).length) (backTo pos (starEach l X.env)) (backToKw pos (keywordEach [] X.env)) = true := by
    show ((backTo pos (starEach l X.env)).all (fun x => !x.1) && true && decide (l.length + 0 + 0 < 30)) = true
    rw [star_all hst, decide_eq_true (by omega)]
    rfl
  have hpos : methodCallPos true o X.env ap pos = pure pos := by
    unfold methodCallPos
    rw [if_pos (by rw [hl]; rfl)]
  have he : eval (.Call (.Attribute o m ap) l [] pos) X.env = (do
      let ov ← eval o X.env
      standAt ap.atName
      let (f, first) ← holding [ov] (getMethod ov m (do return (← importBound o X.env).getD true))
      callWith pos f first (backTo pos (starEach l X.env)) (backToKw pos (keywordEach [] X.env))) := by
    rw [arm_eval_Call, base_of hn]
    unfold methodCall
    rw [hform, hpos]
    rfl
  refine PySem.W.methodCall_KW (thn ((PRw.val ho).run pins s σ H (fun v H1 => ∃ u1 h1 x, HR X.K ct u1 h1 H1 ∧ RS X.K u1 H1 σ3 σ ∧ RV X.K u1 H1 x v ∧ Pg X.K ct (fun c fs u h H => E c fs u h H σ) (RW X.K) u1 H1 (((recvM (par T k) m x).bind fun i => (g σ3).bind fun xs => (callI T k i (x :: xs)).bind ret) h1) Q) I
    ⟨u, σ3, h, S, R, q.bind low_W fun x h1 _ u1 H1 v l1 R1 r1 q1 => ⟨u1, h1, x, R1, S.up l1, r1, q1⟩⟩) ?_) he
  rintro ov s1 ⟨v, H1, I1, rx, u1, h1, x, R1, S1, r1, q1⟩
  cases r1 with
  | @ref n a hna =>
    unfold M.bind recvM at q1
    cases hh : h1[n]? with
    | none => simp only [hh] at q1; exact q1.elim
    | some ob =>
      cases ob with
      | ins c fs =>
        simp only [hh] at q1
        obtain ⟨Ca, dx, vs, ec, ea, rk⟩ := R1.ob n _ a hh hna
        cases hf : fs.lookup m with
        | some w => simp only [hf] at q1; exact q1.elim
        | none =>
          have hv : vs.lookup m = none := by
            rcases rk.lookup m with ⟨_, e2⟩ | ⟨d, w, e1, _⟩
            · exact e2
            · rw [hf] at e1; cases e1
          simp only [hf] at q1
          cases hm : T.meth c m with
          | none =>
            have hm' : (par T k).meth c m = none := hm
            simp only [hm'] at q1
            exact q1.elim
          | some i =>
            have hm' : (par T k).meth c m = some i := hm
            simp only [hm'] at q1
            obtain ⟨hcl, f, fd, ps, hme, e3, F⟩ := C.wd.meth c Ca m i ec hm
            cases rx
            refine getmeth_ok I1 ea hcl hme hv ?_
            have q2 : Pg X.K ct (fun c fs u h H => E c fs u h H σ) (RW X.K) u1 H1 (((g σ3).bind fun xs => (callI T k i (.ref n :: xs)).bind ret) h1) Q := q1
            refine args_run (first := [.ref a]) (Q' := fun vs H2 => ∃ u2 h2 ds, HR X.K ct u2 h2 H2 ∧ RVs X.K u2 H2 (.ref n :: ds) (.ref a :: vs) ∧ Pg X.K ct (fun c fs u h H => E c fs u h H σ) (RW X.K) u2 H2 (((callI T k i (.ref n :: ds)).bind ret) h2) Q) hst ha hme.kp hnil I1
              ⟨u1, σ3, h1, S1, R1, q2.bind low_W fun ds h2 _ u2 H2 vs l2 R2 r2 q3 => ⟨u2, h2, ds, R2, .cons (.ref (l2.sub hna)) r2, q3⟩⟩ ?_
            rintro us vs s2 H2 I2 r ⟨u2, h2, ds, R2, r2, q3⟩
            exact fn_run C F e3 I2 (.cons (show L2.RelV (.ref a) (.ref a) from rfl) r) R2 r2 q3
      | _ => simp only [hh] at q1; exact q1.elim
  | _ => exact q1.elim
/-- C(..) -/
theorem e_new {x : Str} {c : Nat} {l : List Expr} {g : Sg → M (List D)} {p pos : Pos} (h1 : nm.cl x = some c) (h2 : gloB sc x = true) (h3 : dbgB x = true) (hst : l.all notStar = true) (ha : PAs X ct E l g) (hnil : l = [] → g = fun _ => M.pure []) :
    PRw X ct E (.Call (.Name x p) l [] pos) fun σ => (g σ).bind fun xs => newM (par T k) c xs := by
  simp only [dbgB, Bool.and_eq_true, Bool.not_eq_true'] at h3
  obtain ⟨Ca, i, f, fd, ps, e1, ec, ei, Mk, e3, F⟩ := C.wd.cl x c h1
  refine ⟨fun pins s σ H Q I ⟨u, σ3, h, S, R, q⟩ => ?_⟩
  refine wpAny_Call_Name_kw (ld_glob I (e_gl C h2) e1 ?_ h3.1.1)
  refine args_run (Q' := fun vs H1 => ∃ u1 h1 ds, HR X.K ct u1 h1 H1 ∧ RVs X.K u1 H1 ds vs ∧ Pg X.K ct (fun c fs u h H => E c fs u h H σ) (RW X.K) u1 H1 (newM (par T k) c ds h1) Q) hst ha Mk.kp hnil I
    ⟨u, σ3, h, S, R, q.bind low_W fun ds h1 _ u1 H1 vs l1 R1 r1 q1 => ⟨u1, h1, ds, R1, r1, q1⟩⟩ ?_
  rintro us vs s1 H1 I1 r ⟨u1, h1, ds, R1, r1, q1⟩
  unfold newM at q1
  have ei' : (par T k).init c = some i := ei
  simp only [ei'] at q1
  have q1 : Pg X.K ct (fun c fs u h H => E c fs u h H σ) (RW X.K) u1 H1 (match callI T k i (.ref h1.length :: ds) (h1 ++ [.ins c []]) with
      | .ok .non h' => .ok (.val (.ref h1.length)) h'
      | .err c fs h' => .err c fs h'
      | _ => .stuck) Q := q1
  -- the new instance stands at x, its dict at dx
  have hdx : H1 s1.heap.objs.size = none := I1.hok.fresh (Nat.le_refl _)
  have hx : H1 (s1.heap.objs.size + 1) = none := I1.hok.fresh (Nat.le_succ _)
  have ne : s1.heap.objs.size + 1 ≠ s1.heap.objs.size := Nat.succ_ne_self _
  generalize hde : s1.heap.objs.size = dx at *
  have hx2 : (upd H1 dx (.own (dx + 1))) (dx + 1) = none := by rw [upd_ne ne]; exact hx
  have l2 : Later u1 H1 u1 (upd (upd H1 dx (.own (dx + 1))) (dx + 1) (.ins Ca dx [])) := (Later.new hdx).trans (Later.new hx2)
  have R2 : HR X.K ct u1 h1 (upd (upd H1 dx (.own (dx + 1))) (dx + 1) (.ins Ca dx [])) := HR.new (R1.new hdx) hx2
  have R3 : HR X.K ct (u1 ++ [dx + 1]) (h1 ++ [.ins c []]) (upd (upd H1 dx (.own (dx + 1))) (dx + 1) (.ins Ca dx [])) := R2.name (R1.notIn hx) ⟨Ca, dx, [], ec, upd_same, .nil⟩
  have hself : (u1 ++ [dx + 1])[h1.length]? = some (dx + 1) := by
    rw [← R1.len, List.getElem?_append_right (Nat.le_refl _), Nat.sub_self]; rfl
  have I2 := L2.Inv.made (C := Ca) I1
  rw [hde] at I2
  have rr : Vals (V.ref (dx + 1) :: vs) (Value.ref (dx + 1) :: us) := .cons rfl r
  have rs : RVs X.K (u1 ++ [dx + 1]) (upd (upd H1 dx (.own (dx + 1))) (dx + 1) (.ins Ca dx [])) (.ref h1.length :: ds) (V.ref (dx + 1) :: vs) := .cons (.ref hself) ((r1.up l2).upw Wk.more)
  have back : ∀ {u' H'}, Later (u1 ++ [dx + 1]) (upd (upd H1 dx (.own (dx + 1))) (dx + 1) (.ins Ca dx [])) u' H' → Later u1 H1 u' H' := fun {u' H'} l => (Later.name (p := dx + 1) hx l2).trans l
  have hsp : spI X.K ct T k i (.ref (dx + 1) :: vs) (upd (upd H1 dx (.own (dx + 1))) (dx + 1) (.ins Ca dx [])) (fun v H2 => v = .non ∧ Q (.ref (dx + 1)) H2) (WE (fun cv dx σ H => ∃ c fs u h, XR X.K ct c fs u H cv dx ∧ HR X.K ct u h H ∧ E c fs u h H σ) σ) := by
    refine ⟨_, _, _, R3, rs, ?_⟩
    cases ecall : callI T k i (.ref h1.length :: ds) (h1 ++ [.ins c []]) with
    | ok d h' =>
      rw [ecall] at q1
      cases d with
      | non =>
        intro u' H' v l R' rv
        cases rv
        exact ⟨rfl, q1 u' H' (.ref (dx + 1)) (back l) R' (.ref (l.sub hself))⟩
      | _ => exact q1.elim
    | err c fs h' =>
      rw [ecall] at q1
      exact fun u' H' l R' => wish_ok R' (q1 u' H' (back l) R')
    | stuck => rw [ecall] at q1; exact q1.elim
  have hl : (Value.ref (dx + 1) :: us ++ []).length = ps.length := by
    rw [List.append_nil, ← F.len _ _ _ _ hsp]
    exact rr.length.symm
  refine wpAny_call (make_map (f := f) I1.kIn Mk.makes Mk.init (beq_iff_eq.mp Mk.fn) ?_)
  rw [hde]
  refine codeAny_mono (F.run _ X.stack _ _ ⟨Value.ref (dx + 1) :: us, []⟩ (Value.ref (dx + 1) :: us) _ _ _ ((C.room.make Ca us []).mono (by omega)) (I2.env0.make Ca us []) (by have := e3 _ (Value.ref (dx + 1) :: us) I2.kIn hl; rw [List.append_nil] at this; exact this) rr hsp) fun r s' hq' => ?_
  cases r with
  | error e => exact passAt C.tk σ pins _ _ e s' I2 hq'
  | ok fl =>
    cases fl with
    | ret w =>
      obtain ⟨v, H', I3, rv, ev, q3⟩ := I2.after hq'
      subst ev
      exact ⟨rv, ⟨V.ref (dx + 1), H', I3, rfl, q3⟩⟩
    | next => exact hq'.elim
    | brk => exact hq'.elim
    | cont => exact hq'.elim
end
end PX

/-! PXl: what is walked; targets. -/
namespace PX
open PySem PySem.Spec PyProof.Rows L2
/-- an iterator that walks these data, as long as the guarded things stand -/
structure Wlk (K : Fr) (ct : Nat → Option Addr) (ds : List D) (g : Grd) (u : List Addr) (H : Hp) (J : L2.It) : Prop where
  go : ∀ (i : Nat) (d : D) (u' : List Addr) (h' : Hs) (H' : Hp), ds[i]? = some d → Wk u H u' H' → HR K ct u' h' H' → grdOk h' g = true → J.go i H' ∧ ∀ x H2, J.yld i H' x H2 → Later u' H' u' H2 ∧ HR K ct u' h' H2 ∧ RV K u' H2 d x
  stop : ∀ (i : Nat) (u' : List Addr) (h' : Hs) (H' : Hp), ds.length ≤ i → Wk u H u' H' → HR K ct u' h' H' → grdOk h' g = true → J.stop i H'
def RI (K : Fr) (ct : Nat → Option Addr) : List D × Grd → Hp → List Addr → Hp → L2.It → Prop := fun r _ u H J => Wlk K ct r.1 r.2 u H J
theorem low_I {K : Fr} {ct : Nat → Option Addr} : Low (RI K ct) := fun _ _ _ _ _ _ _ r => r
/-- the guard at a locked or tracked list -/
theorem grd_mem {h : Hs} {g : Grd} {n : Nat} {o : MO} (e : grdOk h g = true) (m : (n, o) ∈ g) : h[n]? = some o := by
  unfold grdOk at e
  rw [List.all_eq_true] at e
  simpa using e (n, o) m
theorem grd_app {h : Hs} {g g' : Grd} : grdOk h (g ++ g') = true ↔ grdOk h g = true ∧ grdOk h g' = true := by
  unfold grdOk
  rw [List.all_append, Bool.and_eq_true]
/-- the things that a sequence of data stands for -/
structure Sqn (K : Fr) (ct : Nat → Option Addr) (ds : List D) (g : Grd) (u : List Addr) (H : Hp) (R : Hp → Prop) (rd : Hp → List V → Prop) : Prop where
  at_ : ∀ (u' : List Addr) (h' : Hs) (H' : Hp), Wk u H u' H' → HR K ct u' h' H' → grdOk h' g = true → ∃ vs, rd H' vs ∧ RVs K u' H' ds vs
theorem seq_list {K : Fr} {ct : Nat → Option Addr} {h : Hs} {d : D} {x : V} {u : List Addr} {H : Hp} {r : List D × Grd} (R : HR K ct u h H) (rv : RV K u H d x) (e : seqG h d = some r) :
    ∃ a, x = .ref a ∧ ((∀ u' h' H', Wk u H u' H' → HR K ct u' h' H' → grdOk h' r.2 = true → ∃ vs, SqL K H' a vs ∧ RVs K u' H' r.1 vs) ∨
      (r.2 = [] ∧ ∀ u' H', Wk u H u' H' → ∃ vs, SqT K H' a vs ∧ RVs K u' H' r.1 vs)) := by
  cases rv with
  | @tup a vs ds ha hr =>
    cases e
    exact ⟨a, rfl, .inr ⟨rfl, fun u' H' l => ⟨vs, .inl (.inl (l.tup a vs ha)), hr.upw l⟩⟩⟩
  | @lst a vs ds ha hr =>
    cases e
    exact ⟨a, rfl, .inl fun u' h' H' l _ _ => ⟨vs, (SqF.later l ha).l, hr.upw l⟩⟩
  | @ref n a ha =>
    unfold seqG at e
    cases hn : h[n]? with
    | none => simp only [hn] at e; cases e
    | some o =>
      cases o with
      | lst xs =>
        simp only [hn] at e
        cases e
        refine ⟨a, rfl, .inl fun u' h' H' l R' g => ?_⟩
        obtain ⟨vs, e1, e2⟩ := R'.ob n (.lst xs) a (grd_mem g (by simp)) (l.sub _ _ ha)
        exact ⟨vs, .inl (.inl e1), e2⟩
      | frz xs =>
        simp only [hn] at e
        cases e
        obtain ⟨vs, ob, e1, e2⟩ := R.ob n _ a hn ha
        exact ⟨a, rfl, .inl fun u' h' H' l _ _ => ⟨vs, .inl (.inr ⟨ob, l.frz a ob _ e1⟩), e2.upw l⟩⟩
      | _ => simp only [hn] at e; cases e
  | _ => cases e
theorem seq_grd {h : Hs} {d : D} {r : List D × Grd} (e : seqG h d = some r) : grdOk h r.2 = true := by
  cases d with
  | tup xs => cases e; rfl
  | lst xs => cases e; rfl
  | ref n =>
    unfold seqG at e
    cases hn : h[n]? with
    | none => simp only [hn] at e; cases e
    | some o =>
      cases o with
      | lst xs => simp only [hn] at e; cases e; simp [grdOk, hn]
      | frz xs => simp only [hn] at e; cases e; rfl
      | _ => simp only [hn] at e; cases e
  | _ => cases e
theorem walk_grd {h : Hs} {d : D} {r : List D × Grd} (e : walkG h d = some r) : grdOk h r.2 = true := by
  cases d with
  | str s =>
    simp only [walkG] at e
    split at e
    · cases e; rfl
    · cases e
  | _ =>
    simp only [walkG] at e
    exact seq_grd e
theorem seq_tup {K : Fr} {h : Hs} {u : List Addr} {H : Hp} {d : D} {z : V} {r : List D × Grd} (rv : RV K u H d z) (e : seqG h d = some r) (ht : isTupD d = true) : ∃ a, z = .ref a ∧ r.2 = [] ∧ ∀ u' H', Wk u H u' H' → ∃ vs, SqT K H' a vs ∧ RVs K u' H' r.1 vs := by
  cases rv with
  | @tup a vs ds ha hr => cases e; exact ⟨a, rfl, rfl, fun u' H' l => ⟨vs, .inl (.inl (l.tup a vs ha)), hr.upw l⟩⟩
  | _ => cases ht
theorem seq_lst {K : Fr} {ct : Nat → Option Addr} {h : Hs} {u : List Addr} {H : Hp} {d : D} {z : V} {r : List D × Grd} (R : HR K ct u h H) (rv : RV K u H d z) (e : seqG h d = some r) (ht : isTupD d = false) :
    ∃ a, z = .ref a ∧ ∀ u' h' H', Wk u H u' H' → HR K ct u' h' H' → grdOk h' r.2 = true → ∃ vs, SqL K H' a vs ∧ RVs K u' H' r.1 vs := by
  cases rv with
  | @tup a vs ds ha hr => cases ht
  | @lst a vs ds ha hr => cases e; exact ⟨a, rfl, fun u' h' H' l _ _ => ⟨vs, (SqF.later l ha).l, hr.upw l⟩⟩
  | @ref n a ha =>
    unfold seqG at e
    cases hn : h[n]? with
    | none => simp only [hn] at e; cases e
    | some o =>
      cases o with
      | lst xs =>
        simp only [hn] at e
        cases e
        refine ⟨a, rfl, fun u' h' H' l R' g => ?_⟩
        obtain ⟨vs, e1, e2⟩ := R'.ob n (.lst xs) a (grd_mem g (by simp)) (l.sub _ _ ha)
        exact ⟨vs, .inl (.inl e1), e2⟩
      | frz xs =>
        simp only [hn] at e
        cases e
        obtain ⟨vs, ob, e1, e2⟩ := R.ob n _ a hn ha
        exact ⟨a, rfl, fun u' h' H' l _ _ => ⟨vs, .inl (.inr ⟨ob, l.frz a ob _ e1⟩), e2.upw l⟩⟩
      | _ => simp only [hn] at e; cases e
  | _ => cases e
/-! ### the iterators -/
section
variable {K : Fr} {ct : Nat → Option Addr} {u : List Addr} {H : Hp} {ds : List D} {g : Grd} {a : Addr}
theorem wlk_list (q : ∀ u' h' H', Wk u H u' H' → HR K ct u' h' H' → grdOk h' g = true → ∃ vs, SqL K H' a vs ∧ RVs K u' H' ds vs) : Wlk K ct ds g u H (Itl K a) := by
  refine ⟨fun i d u' h' H' e l R e2 => ?_, fun i u' h' H' e l R e2 => ?_⟩
  · obtain ⟨vs, h1, h2⟩ := q u' h' H' l R e2
    obtain ⟨v, e3, e4⟩ := h2.get e
    refine ⟨⟨vs, v, h1, e3⟩, ?_⟩
    rintro x H2 ⟨rfl, hx⟩
    have e5 := hx vs h1
    rw [e3] at e5
    cases e5
    exact ⟨Later.refl, R, e4⟩
  · obtain ⟨vs, h1, h2⟩ := q u' h' H' l R e2
    exact ⟨vs, h1, by rw [← h2.length]; exact e⟩
theorem wlk_tup (q : ∀ u' H', Wk u H u' H' → ∃ vs, SqT K H' a vs ∧ RVs K u' H' ds vs) : Wlk K ct ds g u H (Itt K a) := by
  refine ⟨fun i d u' h' H' e l R e2 => ?_, fun i u' h' H' e l R e2 => ?_⟩
  · obtain ⟨vs, h1, h2⟩ := q u' H' l
    obtain ⟨v, e3, e4⟩ := h2.get e
    refine ⟨⟨vs, v, h1, e3⟩, ?_⟩
    rintro x H2 ⟨rfl, hx⟩
    have e5 := hx vs h1
    rw [e3] at e5
    cases e5
    exact ⟨Later.refl, R, e4⟩
  · obtain ⟨vs, h1, h2⟩ := q u' H' l
    exact ⟨vs, h1, by rw [← h2.length]; exact e⟩
theorem wlk_str {z : Str} : Wlk K ct (z.cps.toList.map fun c => .str ⟨#[c]⟩) g u H (Its z) := by
  refine ⟨fun i d u' h' H' e l R e2 => ?_, fun i u' h' H' e l R e2 => ?_⟩
  · rw [List.getElem?_map] at e
    obtain ⟨c, e3, rfl⟩ := Option.map_eq_some_iff.mp e
    rw [Array.getElem?_toList] at e3
    refine ⟨(Array.getElem?_eq_some_iff.mp e3).1, ?_⟩
    rintro x H2 ⟨rfl, c2, e4, rfl⟩
    rw [e3] at e4
    cases e4
    exact ⟨Later.refl, R, .str _⟩
  · rw [List.length_map, Array.length_toList] at e
    exact e
theorem wlk_range {lo hi : Int} : Wlk K ct (rngD lo hi) g u H (Itr lo (hi - lo).toNat) := by
  refine ⟨fun i d u' h' H' e l R e2 => ?_, fun i u' h' H' e l R e2 => ?_⟩
  · unfold rngD at e
    rw [List.getElem?_map] at e
    obtain ⟨c, e3, rfl⟩ := Option.map_eq_some_iff.mp e
    obtain ⟨h1, h2⟩ := List.getElem?_eq_some_iff.mp e3
    rw [List.length_range] at h1
    rw [List.getElem_range] at h2
    subst h2
    refine ⟨h1, ?_⟩
    rintro x H2 ⟨rfl, rfl⟩
    exact ⟨Later.refl, R, .int _⟩
  · unfold rngD at e
    rw [List.length_map, List.length_range] at e
    exact e
theorem zipD_get : ∀ {xs ys : List D} {i : Nat} {d : D}, (zipD xs ys)[i]? = some d → ∃ x y, xs[i]? = some x ∧ ys[i]? = some y ∧ d = .tup [x, y]
  | [], _, _, _, e => by simp [zipD] at e
  | _ :: _, [], _, _, e => by simp [zipD] at e
  | x :: xs, y :: ys, 0, d, e => by
    simp [zipD] at e
    exact ⟨x, y, rfl, rfl, e.symm⟩
  | x :: xs, y :: ys, i + 1, d, e => by
    obtain ⟨p, q, h1, h2, h3⟩ := zipD_get (xs := xs) (ys := ys) (i := i) (d := d) (by simpa [zipD] using e)
    exact ⟨p, q, by simpa using h1, by simpa using h2, h3⟩
theorem zipD_end : ∀ {xs ys : List D} {i : Nat}, (zipD xs ys).length ≤ i → xs.length ≤ i ∨ ys.length ≤ i
  | [], _, _, _ => .inl (Nat.zero_le _)
  | _ :: _, [], _, _ => .inr (Nat.zero_le _)
  | x :: xs, y :: ys, 0, e => by simp [zipD] at e
  | x :: xs, y :: ys, i + 1, e => by
    rcases zipD_end (xs := xs) (ys := ys) (i := i) (by simpa [zipD] using e) with h | h
    · exact .inl (by simpa using h)
    · exact .inr (by simpa using h)
theorem enumD_get : ∀ {xs : List D} {k i : Nat} {d : D}, (enumD k xs)[i]? = some d → ∃ x, xs[i]? = some x ∧ d = .tup [.int ((k + i : Nat) : Int), x]
  | [], _, _, _, e => by simp [enumD] at e
  | x :: xs, k, 0, d, e => by
    simp [enumD] at e
    exact ⟨x, rfl, by rw [← e]; rfl⟩
  | x :: xs, k, i + 1, d, e => by
    obtain ⟨p, h1, h3⟩ := enumD_get (xs := xs) (k := k + 1) (i := i) (d := d) (by simpa [enumD] using e)
    exact ⟨p, by simpa using h1, by rw [h3, Nat.add_assoc, Nat.add_comm 1 i]⟩
theorem enumD_length : ∀ {xs : List D} {k : Nat}, (enumD k xs).length = xs.length
  | [], _ => rfl
  | x :: xs, k => by simp [enumD, enumD_length]
/-- a pair just made -/
theorem pair_new {x y : D} {v w : V} {u' : List Addr} {h' : Hs} {H' : Hp} {p : Addr} (R : HR K ct u' h' H') (hp : H' p = none) (r1 : RV K u' H' x v) (r2 : RV K u' H' y w) :
    Later u' H' u' (upd H' p (.tup [v, w])) ∧ HR K ct u' h' (upd H' p (.tup [v, w])) ∧ RV K u' (upd H' p (.tup [v, w])) (.tup [x, y]) (.ref p) :=
  ⟨Later.new hp, R.new hp, .tup upd_same (.cons (r1.up (Later.new hp)) (.cons (r2.up (Later.new hp)) .nil))⟩
theorem wlk_zipL {b : Addr} {es : List D} {g2 : Grd} (q : ∀ u' h' H', Wk u H u' H' → HR K ct u' h' H' → grdOk h' g = true → ∃ vs, SqL K H' a vs ∧ RVs K u' H' ds vs)
    (q2 : ∀ u' h' H', Wk u H u' H' → HR K ct u' h' H' → grdOk h' g2 = true → ∃ vs, SqL K H' b vs ∧ RVs K u' H' es vs) : Wlk K ct (zipD ds es) (g ++ g2) u H (Itz K a b) := by
  refine ⟨fun i d u' h' H' e l R e2 => ?_, fun i u' h' H' e l R e2 => ?_⟩
  · obtain ⟨x, y, ex, ey, rfl⟩ := zipD_get e
    obtain ⟨vs, h1, h2⟩ := q u' h' H' l R (grd_app.mp e2).1
    obtain ⟨ws, h3, h4⟩ := q2 u' h' H' l R (grd_app.mp e2).2
    obtain ⟨v, e3, e4⟩ := h2.get ex
    obtain ⟨w, e5, e6⟩ := h4.get ey
    refine ⟨⟨vs, ws, v, w, h1, h3, e3, e5⟩, ?_⟩
    rintro z H2 ⟨p, v', w', rfl, hp, rfl, h5, h6⟩
    have e7 := h5 vs h1
    rw [e3] at e7
    cases e7
    have e8 := h6 ws h3
    rw [e5] at e8
    cases e8
    exact pair_new R hp e4 e6
  · obtain ⟨vs, h1, h2⟩ := q u' h' H' l R (grd_app.mp e2).1
    obtain ⟨ws, h3, h4⟩ := q2 u' h' H' l R (grd_app.mp e2).2
    refine ⟨vs, ws, h1, h3, ?_⟩
    rw [← h2.length, ← h4.length]
    exact zipD_end e
theorem wlk_zipT {b : Addr} {es : List D} (q : ∀ u' H', Wk u H u' H' → ∃ vs, SqT K H' a vs ∧ RVs K u' H' ds vs)
    (q2 : ∀ u' H', Wk u H u' H' → ∃ vs, SqT K H' b vs ∧ RVs K u' H' es vs) : Wlk K ct (zipD ds es) g u H (RZ.ItzT K a b) := by
  refine ⟨fun i d u' h' H' e l R e2 => ?_, fun i u' h' H' e l R e2 => ?_⟩
  · obtain ⟨x, y, ex, ey, rfl⟩ := zipD_get e
    obtain ⟨vs, h1, h2⟩ := q u' H' l
    obtain ⟨ws, h3, h4⟩ := q2 u' H' l
    obtain ⟨v, e3, e4⟩ := h2.get ex
    obtain ⟨w, e5, e6⟩ := h4.get ey
    refine ⟨⟨vs, ws, v, w, h1, h3, e3, e5⟩, ?_⟩
    rintro z H2 ⟨p, v', w', rfl, hp, rfl, h5, h6⟩
    have e7 := h5 vs h1
    rw [e3] at e7
    cases e7
    have e8 := h6 ws h3
    rw [e5] at e8
    cases e8
    exact pair_new R hp e4 e6
  · obtain ⟨vs, h1, h2⟩ := q u' H' l
    obtain ⟨ws, h3, h4⟩ := q2 u' H' l
    refine ⟨vs, ws, h1, h3, ?_⟩
    rw [← h2.length, ← h4.length]
    exact zipD_end e
theorem wlk_enum (q : ∀ u' h' H', Wk u H u' H' → HR K ct u' h' H' → grdOk h' g = true → ∃ vs, SqL K H' a vs ∧ RVs K u' H' ds vs) : Wlk K ct (enumD 0 ds) g u H (Ite K a) := by
  refine ⟨fun i d u' h' H' e l R e2 => ?_, fun i u' h' H' e l R e2 => ?_⟩
  · obtain ⟨x, ex, rfl⟩ := enumD_get e
    obtain ⟨vs, h1, h2⟩ := q u' h' H' l R e2
    obtain ⟨v, e3, e4⟩ := h2.get ex
    refine ⟨⟨vs, v, h1, e3⟩, ?_⟩
    rintro z H2 ⟨p, v', rfl, hp, rfl, h5⟩
    have e7 := h5 vs h1
    rw [e3] at e7
    cases e7
    rw [Nat.zero_add]
    exact pair_new R hp (.int _) e4
  · obtain ⟨vs, h1, h2⟩ := q u' h' H' l R e2
    exact ⟨vs, h1, by rw [← h2.length, ← enumD_length (k := 0)]; exact e⟩
theorem rev_get {α : Type} {xs : List α} {i : Nat} {d : α} (e : xs.reverse[i]? = some d) : i < xs.length ∧ xs[xs.length - 1 - i]? = some d := by
  have h := (List.getElem?_eq_some_iff.mp e).1
  rw [List.length_reverse] at h
  rw [List.getElem?_reverse h] at e
  exact ⟨h, e⟩
theorem wlk_revL {n : Nat} (q : ∀ u' h' H', Wk u H u' H' → HR K ct u' h' H' → grdOk h' g = true → ∃ vs, SqL K H' a vs ∧ RVs K u' H' ds vs) (hn : ds.length = n) : Wlk K ct ds.reverse g u H (Itv K a n) := by
  subst hn
  refine ⟨fun i d u' h' H' e l R e2 => ?_, fun i u' h' H' e l R e2 => ?_⟩
  · obtain ⟨hi, e⟩ := rev_get e
    obtain ⟨vs, h1, h2⟩ := q u' h' H' l R e2
    obtain ⟨v, e3, e4⟩ := h2.get e
    refine ⟨⟨hi, vs, v, h1, e3⟩, ?_⟩
    rintro x H2 ⟨rfl, hx⟩
    have e5 := hx vs h1
    rw [e3] at e5
    cases e5
    exact ⟨Later.refl, R, e4⟩
  · rw [List.length_reverse] at e
    exact e
theorem wlk_revT {n : Nat} (q : ∀ u' H', Wk u H u' H' → ∃ vs, SqT K H' a vs ∧ RVs K u' H' ds vs) (hn : ds.length = n) : Wlk K ct ds.reverse g u H (RT.ItvT K a n) := by
  subst hn
  refine ⟨fun i d u' h' H' e l R e2 => ?_, fun i u' h' H' e l R e2 => ?_⟩
  · obtain ⟨hi, e⟩ := rev_get e
    obtain ⟨vs, h1, h2⟩ := q u' H' l
    obtain ⟨v, e3, e4⟩ := h2.get e
    refine ⟨⟨hi, vs, v, h1, e3⟩, ?_⟩
    rintro x H2 ⟨rfl, hx⟩
    have e5 := hx vs h1
    rw [e3] at e5
    cases e5
    exact ⟨Later.refl, R, e4⟩
  · rw [List.length_reverse] at e
    exact e
end
section
variable {T : Prog} {nm : Nm} {ct : Nat → Option Addr} {k : Nat} {X : Cx} {N : List Str} {sc : Scope} {fb : Str → Bool} {E : Et} {tg : Expr}
abbrev PIs (X : Cx) (ct : Nat → Option Addr) (E : Et) (tg e : Expr) (g : Sg → M (List D × Grd)) : Prop := PI X tg e (tX X ct E (RI X.K ct) g)
theorem PI.imp {e : Expr} {t t' : TI} (h : PI X tg e t) (k : ∀ σ H R, t' σ H R → t σ H R) : PI X tg e t' := ⟨fun pins s σ H R I q => h.run pins s σ H R I (k σ H R q)⟩
/-- any value that is walked: a list, a tuple, a text -/
theorem pi_some {e : Expr} {te : TE} (he : PE X e te) : PI X tg e (fun σ H R => te σ H fun x H1 => (∃ a xs, x = .ref a ∧ SqL X.K H1 a xs ∧ R (Itl X.K a) H1) ∨ (∃ a xs, x = .ref a ∧ SqT X.K H1 a xs ∧ R (Itt X.K a) H1) ∨ ∃ z, x = .str z ∧ R (Its z) H1) := by
  refine ⟨fun pins s σ H R I h => thn (he.run pins s σ H _ I h) fun v s1 ⟨x, H1, I1, rx, q⟩ => ?_⟩
  rcases q with ⟨a, xs, rfl, hq, q⟩ | ⟨a, xs, rfl, hq, q⟩ | ⟨z, rfl, q⟩
  · cases rx
    obtain ⟨its, _, pl, _⟩ := I1.list hq
    exact wpAny_pyIter_list pl.isList (pi_one (tk := s1.toks) I1 _ (turn_list a _) ⟨_, Heap.get?_push_size _ rfl, rfl, rfl⟩ q)
  · cases rx
    obtain ⟨its, _, pl, _⟩ := I1.tuple hq
    exact wpAny_pyIter_tuple (show s1.heap.IsTuple a its.toArray from pl) (pi_one (tk := s1.toks) I1 _ (turn_tuple a _) ⟨_, Heap.get?_push_size _ rfl, rfl, rfl⟩ q)
  · obtain ⟨t, rfl⟩ := rx
    cases hz : z.cps.all (· < 128) with
    | false => exact wpAny_pyIter_wide hz (pi_one (tk := s1.toks) I1 _ (turn_str _ z t _ (.inr rfl)) ⟨_, Heap.get?_push_size _ rfl, rfl, rfl⟩ q)
    | true => exact wpAny_pyIter_ascii hz (pi_one (tk := s1.toks) I1 _ (turn_str _ z t _ (.inl rfl)) ⟨_, Heap.get?_push_size _ rfl, rfl, rfl⟩ q)
theorem Pg.seq {α β : Type} {Rl : α → Hp → List Addr → Hp → β → Prop} {Er : Ft} {u : List Addr} {h : Hs} {H : Hp} {d : D} {f : List D × Grd → M α} {Q : β → Hp → Prop} (q : Pg X.K ct Er Rl u H ((seqM d).bind f h) Q) : ∃ r, seqG h d = some r ∧ Pg X.K ct Er Rl u H (f r h) Q := by
  unfold M.bind seqM at q
  cases e : seqG h d with
  | none => simp only [e] at q; exact q.elim
  | some r => simp only [e] at q; exact ⟨r, rfl, q⟩
theorem i_vals {e : Expr} {g : Sg → M Raw} (he : PRw X ct E e g) : PIs X ct E tg e fun σ => (V3 (g σ)).bind walkM := by
  refine PI.imp (pi_some (PRw.val he)) fun σ H R ⟨u, σ3, h, S, R0, q⟩ => ⟨u, σ3, h, S, R0, q.bind low_I fun x h1 _ u1 H1 v l1 R1 r1 q1 => ?_⟩
  have r1 : RV X.K u1 H1 x v := r1
  unfold walkM at q1
  cases ew : walkG h1 x with
  | none => rw [ew] at q1; exact q1.elim
  | some r =>
    rw [ew] at q1
    by_cases hs : ∃ z, x = .str z
    · obtain ⟨z, rfl⟩ := hs
      simp only [walkG] at ew
      split at ew
      · cases ew
        cases r1
        exact .inr (.inr ⟨z, rfl, q1 u1 H1 _ Later.refl R1 wlk_str⟩)
      · cases ew
    · have es : seqG h1 x = some r := by
        cases x with
        | str z => exact absurd ⟨z, rfl⟩ hs
        | _ => exact ew
      obtain ⟨a, rfl, hl | ⟨hg, ht⟩⟩ := seq_list R1 r1 es
      · obtain ⟨vs, hv, _⟩ := hl u1 h1 H1 Later.refl.wk R1 (seq_grd es)
        exact .inl ⟨a, vs, rfl, hv, q1 u1 H1 _ Later.refl R1 (wlk_list hl)⟩
      · obtain ⟨vs, hv, _⟩ := ht u1 H1 Later.refl.wk
        exact .inr (.inl ⟨a, vs, rfl, hv, q1 u1 H1 _ Later.refl R1 (wlk_tup ht)⟩)
variable (C : Cok T nm ct k X N sc fb E)
include C
theorem i_valT {x : Str} {ds : List D} {p : Pos} (h1 : gloB sc x = true) (h2 : dbgB x = true) (h3 : nm.tp x = some ds) : PIs X ct E tg (.Name x p) fun _ => M.pure (ds, []) := by
  obtain ⟨a, vs, e1, e2, e3⟩ := tup_glob C (pos := p) h1 h2 h3
  exact PI.imp (pi_tup e1) fun σ H R ⟨u, σ3, h, S, R0, q⟩ => ⟨a, rfl, ⟨vs, e2 H⟩, q u H _ Later.refl R0 (wlk_tup fun u' H' _ => ⟨vs, e2 H', e3 u' H'⟩)⟩
theorem i_rng1 {e : Expr} {g : Sg → M Raw} {p pos : Pos} (h1 : nm.free "range" = true) (h2 : gloB sc "range" = true) (hn : notStar e = true) (he : PRw X ct E e g) :
    PIs X ct E tg (.Call (.Name "range" p) [e] [] pos) fun σ => (V3 (g σ)).bind fun x => (intM x).bind fun i => if i.natAbs < 2 ^ 61 then M.pure (rngD 0 i, []) else M.stuck := by
  refine PI.imp (pi_range1 (e_gl C h2) (C.wd.free _ h1) (pa_cons (PRw.val he) pa_nil (star_cons hn)) (star_cons hn)) fun σ H R ⟨u, σ3, h, S, R0, q⟩ => ⟨u, σ3, h, S, R0, q.bind low_I fun x h1 _ u1 H1 v l1 R1 r1 q1 => ?_⟩
  have r1 : RV X.K u1 H1 x v := r1
  cases r1 with
  | int i =>
    have q2 : Pg X.K ct (fun c fs u h H => E c fs u h H σ) (RI X.K ct) u1 H1 ((if i.natAbs < 2 ^ 61 then M.pure (rngD 0 i, []) else M.stuck : M (List D × Grd)) h1) R := q1
    split at q2
    · rename_i hi
      refine ⟨i, rfl, by omega, by omega, ?_⟩
      have w := wlk_range (K := X.K) (ct := ct) (u := u1) (H := H1) (g := []) (lo := 0) (hi := i)
      rw [Int.sub_zero] at w
      exact q2 u1 H1 _ Later.refl R1 w
    · exact q2.elim
  | _ => exact q1.elim
theorem i_rng2 {e e2 : Expr} {g g2 : Sg → M Raw} {p pos : Pos} (h1 : nm.free "range" = true) (h2 : gloB sc "range" = true) (hn : notStar e = true) (hn2 : notStar e2 = true) (he : PRw X ct E e g) (he2 : PRw X ct E e2 g2) :
    PIs X ct E tg (.Call (.Name "range" p) [e, e2] [] pos) fun σ => (V3 (g σ)).bind fun x => (V3 (g2 σ)).bind fun y => (intM x).bind fun i => (intM y).bind fun j => if i.natAbs < 2 ^ 61 ∧ j.natAbs < 2 ^ 61 then M.pure (rngD i j, []) else M.stuck := by
  refine PI.imp (pi_range2 (e_gl C h2) (C.wd.free _ h1) (pa_cons (PRw.val he) (pa_cons (PRw.val he2) pa_nil (star_cons hn2)) (star_cons hn)) (by rw [star_cons hn, star_cons hn2]; rfl) (star_cons hn2)) fun σ H R ⟨u, σ3, h, S, R0, q⟩ => ⟨u, σ3, h, S, R0, q.bind low_I fun x h1 _ u1 H1 v l1 R1 r1 q1 => ?_⟩
  refine ⟨u1, σ3, h1, S.up l1, R1, q1.bind low_I fun y h2 _ u2 H2 w l2 R2 r2 q2 => ?_⟩
  have r1 : RV X.K u1 H1 x v := r1
  have r2 : RV X.K u2 H2 y w := r2
  cases r1 with
  | int i =>
    cases r2 with
    | int j =>
      have q3 : Pg X.K ct (fun c fs u h H => E c fs u h H σ) (RI X.K ct) u2 H2 ((if i.natAbs < 2 ^ 61 ∧ j.natAbs < 2 ^ 61 then M.pure (rngD i j, []) else M.stuck : M (List D × Grd)) h2) R := q2
      split at q3
      · rename_i hi
        exact ⟨i, j, rfl, ⟨by omega, by omega, by omega, by omega⟩, q3 u2 H2 _ Later.refl R2 wlk_range⟩
      · exact q3.elim
    | _ => exact q2.elim
  | _ => exact q2.elim
omit C in
/-- the iterator that walks a list or a tuple backwards -/
theorem rev_ok {σ : L2.St} {x : D} {v : V} {u1 : List Addr} {h1 : Hs} {H1 : Hp} {R : L2.It → Hp → Prop} (R1 : HR X.K ct u1 h1 H1) (r1 : RV X.K u1 H1 x v) (q1 : Pg X.K ct (fun c fs u h H => E c fs u h H σ) (RI X.K ct) u1 H1 (((seqM x).bind fun r => M.pure (r.1.reverse, r.2)) h1) R) :
    ∃ (a : Addr) (xs : List V), v = .ref a ∧ ((SqL X.K H1 a xs ∧ R (Itv X.K a xs.length) H1) ∨ (SqT X.K H1 a xs ∧ R (RT.ItvT X.K a xs.length) H1)) := by
  obtain ⟨r, e, q2⟩ := q1.seq
  obtain ⟨a, rfl, hl | ⟨hg, ht⟩⟩ := seq_list R1 r1 e
  · obtain ⟨vs, hv, hr⟩ := hl u1 h1 H1 Later.refl.wk R1 (seq_grd e)
    exact ⟨a, vs, rfl, .inl ⟨hv, q2 u1 H1 _ Later.refl R1 (wlk_revL hl hr.length)⟩⟩
  · obtain ⟨vs, hv, hr⟩ := ht u1 H1 Later.refl.wk
    exact ⟨a, vs, rfl, .inr ⟨hv, q2 u1 H1 _ Later.refl R1 (wlk_revT ht hr.length)⟩⟩
theorem i_rev {e : Expr} {g : Sg → M Raw} {p pos : Pos} (h1 : nm.free "reversed" = true) (h2 : gloB sc "reversed" = true) (hn : notStar e = true) (he : PRw X ct E e g) :
    PIs X ct E tg (.Call (.Name "reversed" p) [e] [] pos) fun σ => (V3 (g σ)).bind fun x => (seqM x).bind fun r => M.pure (r.1.reverse, r.2) :=
  PI.imp (RT.pi_revA (e_gl C h2) (C.wd.free _ h1) (PRw.val he) (star_cons hn)) fun σ H R ⟨u, σ3, h, S, R0, q⟩ => ⟨u, σ3, h, S, R0, q.bind low_I fun x h1 _ u1 H1 v l1 R1 r1 q1 => rev_ok R1 r1 q1⟩
theorem i_zip {e e2 : Expr} {es : List Expr} {kk : Nat} {g g2 : Sg → M Raw} {p pos tp : Pos} (h1 : nm.free "zip" = true) (h2 : gloB sc "zip" = true) (hn : notStar e = true) (hn2 : notStar e2 = true) (he : PRw X ct E e g) (he2 : PRw X ct E e2 g2) :
    PIs X ct E (.Tuple es kk tp) (.Call (.Name "zip" p) [e, e2] [] pos) fun σ => (V3 (g σ)).bind fun x => (V3 (g2 σ)).bind fun y => (seqM x).bind fun r => (seqM y).bind fun q => if isTupD x = isTupD y then M.pure (zipD r.1 q.1, r.2 ++ q.2) else M.stuck := by
  refine PI.imp (RZ.pi_zipA (e_gl C h2) (C.wd.free _ h1) (pa_cons (PRw.val he) (pa_cons (PRw.val he2) pa_nil (star_cons hn2)) (star_cons hn)) (star_cons hn) (by rw [star_cons hn2]; rfl)) fun σ H R ⟨u, σ3, h, S, R0, q⟩ => ⟨u, σ3, h, S, R0, q.bind low_I fun x h1 _ u1 H1 v l1 R1 r1 q1 => ?_⟩
  refine ⟨u1, σ3, h1, S.up l1, R1, q1.bind low_I fun y h2 _ u2 H2 w l2 R2 r2 q2 => ?_⟩
  have r1 : RV X.K u2 H2 x v := RV.up r1 l2
  obtain ⟨r, e1, q3⟩ := q2.seq
  obtain ⟨r', e2, q4⟩ := q3.seq
  split at q4
  · rename_i ht
    cases hx : isTupD x with
    | true =>
      obtain ⟨a, rfl, g1, t1⟩ := seq_tup r1 e1 hx
      obtain ⟨b, rfl, g2, t2⟩ := seq_tup r2 e2 (by rw [← ht]; exact hx)
      obtain ⟨vs, hv, _⟩ := t1 u2 H2 Later.refl.wk
      obtain ⟨ws, hw, _⟩ := t2 u2 H2 Later.refl.wk
      exact ⟨a, b, vs, ws, rfl, .inr ⟨hv, hw, q4 u2 H2 _ Later.refl R2 (wlk_zipT t1 t2)⟩⟩
    | false =>
      obtain ⟨a, rfl, t1⟩ := seq_lst R2 r1 e1 hx
      obtain ⟨b, rfl, t2⟩ := seq_lst R2 r2 e2 (by rw [← ht]; exact hx)
      obtain ⟨vs, hv, _⟩ := t1 u2 h2 H2 Later.refl.wk R2 (seq_grd e1)
      obtain ⟨ws, hw, _⟩ := t2 u2 h2 H2 Later.refl.wk R2 (seq_grd e2)
      exact ⟨a, b, vs, ws, rfl, .inl ⟨hv, hw, q4 u2 H2 _ Later.refl R2 (wlk_zipL t1 t2)⟩⟩
  · exact q4.elim
theorem i_enum {e : Expr} {es : List Expr} {kk : Nat} {g : Sg → M Raw} {p pos tp : Pos} (h1 : nm.free "enumerate" = true) (h2 : gloB sc "enumerate" = true) (hn : notStar e = true) (he : PRw X ct E e g) :
    PIs X ct E (.Tuple es kk tp) (.Call (.Name "enumerate" p) [e] [] pos) fun σ => (V3 (g σ)).bind fun x => (seqM x).bind fun r => if isTupD x then M.stuck else M.pure (enumD 0 r.1, r.2) := by
  refine PI.imp (pi_enum (e_gl C h2) (C.wd.free _ h1) (pa_cons (PRw.val he) pa_nil (star_cons hn)) (star_cons hn)) fun σ H R ⟨u, σ3, h, S, R0, q⟩ => ⟨u, σ3, h, S, R0, q.bind low_I fun x h1 _ u1 H1 v l1 R1 r1 q1 => ?_⟩
  obtain ⟨r, e, q2⟩ := q1.seq
  split at q2
  · exact q2.elim
  · rename_i hx
    obtain ⟨a, rfl, hl⟩ := seq_lst R1 r1 e (by simpa using hx)
    obtain ⟨vs, hv, hr⟩ := hl u1 h1 H1 Later.refl.wk R1 (seq_grd e)
    exact ⟨a, vs, rfl, hv, q2 u1 H1 _ Later.refl R1 (wlk_enum hl)⟩
end
end PX

/-! PXm: calls of what is built in, isinstance, displays of dicts, targets. -/
namespace PX
open PySem PySem.Spec PyProof.Rows L2
section
variable {T : Prog} {nm : Nm} {ct : Nat → Option Addr} {k : Nat} {X : Cx} {N : List Str} {sc : Scope} {fb : Str → Bool} {E : Et}
variable (C : Cok T nm ct k X N sc fb E)
include C
theorem e_bi {b : Bi} {x : Str} {e : Expr} {es : List Expr} {g : Sg → M (List D)} {p pos : Pos} (hb : biB b x = true) (hf : nm.free x = true) (hg : gloB sc x = true) (hst : (e :: es).all notStar = true) (ha : PAs X ct E (e :: es) g) :
    PRw X ct E (.Call (.Name x p) (e :: es) [] pos) fun σ => (g σ).bind fun xs => biD b xs := by
  simp only [List.all_cons, Bool.and_eq_true] at hst
  have fin : ∀ {r : List V → Hp → VK → Prop}, PE X (.Call (.Name x p) (e :: es) [] pos) (tCB r (tX X ct E (RL X.K) g)) → (∀ xs H Q, (∃ u h ds, HR X.K ct u h H ∧ RVs X.K u H ds xs ∧ PR X.K ct u H (biD b ds h) Q) → r xs H Q) →
      PRw X ct E (.Call (.Name x p) (e :: es) [] pos) fun σ => (g σ).bind fun xs => biD b xs := fun {r} h1 h2 =>
    PE.imp h1 fun σ H Q ⟨u, σ3, h, S, R, q⟩ => ⟨u, σ3, h, S, R, q.bind low_W fun ds h1 _ u1 H1 vs l1 R1 r1 q1 => h2 _ _ _ ⟨u1, h1, ds, R1, r1, q1.pr⟩⟩
  have gl := e_gl C hg
  have nb := C.wd.free x hf
  have hc := C.calm
  have hany := star_any (env := X.env) (pos := pos) hst.2
  have hcons := star_cons (es := es) (env := X.env) hst.1
  cases b <;> first
    | (cases hb; done)
    | (have hx := (beq_iff_eq (α := Str)).mp hb
       subst hx
       first
         | exact fin (pe_callB ca_len gl nb (by decide +kernel) ha (by decide) (by decide) hcons hany) fun _ _ _ z => z
         | exact fin (pe_callB ca_abs gl nb (by decide +kernel) ha (by decide) (by decide) hcons hany) fun _ _ _ z => z
         | exact fin (pe_callTy ca_int gl nb (by decide +kernel) ha (by decide) (by decide) hcons hany) fun _ _ _ z => z
         | exact fin (pe_callTy ca_str gl nb (by decide +kernel) ha (by decide) (by decide) hcons hany) fun _ _ _ z => z
         | exact fin (pe_callB (ca_all hc) gl nb (by decide +kernel) ha (by decide) (by decide) hcons hany) fun _ _ _ z => z
         | exact fin (pe_callB (ca_any hc) gl nb (by decide +kernel) ha (by decide) (by decide) hcons hany) fun _ _ _ z => z
         | exact fin (pe_callTy ca_tuple gl nb (by decide +kernel) ha (by decide) (by decide) hcons hany) fun _ _ _ z => z
         | exact fin (pe_callTy ca_list gl nb (by decide +kernel) ha (by decide) (by decide) hcons hany) fun _ _ _ z => z
         | exact fin (pe_callB (ca_sorted hc) gl nb (by decide +kernel) ha (by decide) (by decide) hcons hany) fun _ _ _ z => z
         | exact fin (pe_callB (ca_min2 hc) gl nb (by decide +kernel) ha (by decide) (by decide) hcons hany) fun _ _ _ z => z
         | exact fin (pe_callB (ca_max2 hc) gl nb (by decide +kernel) ha (by decide) (by decide) hcons hany) fun _ _ _ z => z
         | exact fin (pe_callB (ca_min1 hc) gl nb (by decide +kernel) ha (by decide) (by decide) hcons hany) fun _ _ _ z => z
         | exact fin (pe_callB (ca_max1 hc) gl nb (by decide +kernel) ha (by decide) (by decide) hcons hany) fun _ _ _ z => z
         | exact fin (pe_callB (ca_sum hc) gl nb (by decide +kernel) ha (by decide) (by decide) hcons hany) fun _ _ _ z => z)
/-! ### a method of a built-in type -/
omit C in
theorem ty_list {x : V} {d : D} {u : List Addr} {h : Hs} {H : Hp} (R : HR X.K ct u h H) (r : RV X.K u H d x) (e : (∃ xs, d = .lst xs) ∨ ∃ n, d = .ref n ∧ ((∃ xs, h[n]? = some (.lst xs)) ∨ ∃ xs, h[n]? = some (.frz xs))) : tyV X.K "list" x H := by
  rcases e with ⟨xs, rfl⟩ | ⟨n, rfl, ⟨xs, hn⟩ | ⟨xs, hn⟩⟩
  · cases r with
    | lst hs _ => exact .inl ⟨rfl, _, hs.l⟩
  · cases r with
    | ref ha =>
      obtain ⟨vs, e1, _⟩ := R.ob n _ _ hn ha
      exact .inl ⟨rfl, vs, .inl (.inl e1)⟩
  · cases r with
    | ref ha =>
      obtain ⟨vs, o, e1, _⟩ := R.ob n _ _ hn ha
      exact .inl ⟨rfl, vs, .inl (.inr ⟨o, e1⟩)⟩
omit C in
theorem ty_dict {x : V} {d : D} {u : List Addr} {h : Hs} {H : Hp} (R : HR X.K ct u h H) (r : RV X.K u H d x) (e : ∃ n, d = .ref n ∧ ((∃ xs, h[n]? = some (.dct xs)) ∨ ∃ xs, h[n]? = some (.dtp xs))) : tyV X.K "dict" x H := by
  obtain ⟨n, rfl, ⟨xs, hn⟩ | ⟨xs, hn⟩⟩ := e
  · cases r with
    | ref ha =>
      obtain ⟨vs, e1, _⟩ := R.ob n _ _ hn ha
      exact .inr (.inr (.inl ⟨rfl, .inl ⟨vs, e1⟩⟩))
  · cases r with
    | ref ha =>
      obtain ⟨vs, e1, _⟩ := R.ob n _ _ hn ha
      exact .inr (.inr (.inl ⟨rfl, .inr ⟨vs, e1⟩⟩))
/-- the type that a method belongs to -/
def bmT : Bm → String
  | .get1 | .get2 | .setdefault => "dict"
  | .join | .lstrip | .startswith => "str"
  | _ => "list"
omit C in
theorem ty_of {m : Bm} {x : V} {d : D} {u : List Addr} {h h' : Hs} {H : Hp} {z : Unit} (R : HR X.K ct u h H) (r : RV X.K u H d x) (e : tyM m d h = .ok z h') : tyV X.K (bmT m) x H ∧ h' = h := by
  have lst : ∀ {m : Bm}, bmT m = "list" → tyM .append d h = .ok z h' → tyV X.K (bmT m) x H ∧ h' = h := fun {m} hm e => by
    rw [hm]
    cases d with
    | lst xs => cases e; exact ⟨ty_list R r (.inl ⟨xs, rfl⟩), rfl⟩
    | ref n =>
      simp only [tyM] at e
      cases hn : h[n]? with
      | none => simp only [hn] at e; cases e
      | some o =>
        cases o with
        | lst xs => simp only [hn] at e; cases e; exact ⟨ty_list R r (.inr ⟨n, rfl, .inl ⟨xs, hn⟩⟩), rfl⟩
        | frz xs => simp only [hn] at e; cases e; exact ⟨ty_list R r (.inr ⟨n, rfl, .inr ⟨xs, hn⟩⟩), rfl⟩
        | _ => simp only [hn] at e; cases e
    | _ => cases e
  have dct : ∀ {m : Bm}, bmT m = "dict" → tyM .get1 d h = .ok z h' → tyV X.K (bmT m) x H ∧ h' = h := fun {m} hm e => by
    rw [hm]
    cases d with
    | ref n =>
      simp only [tyM] at e
      cases hn : h[n]? with
      | none => simp only [hn] at e; cases e
      | some o =>
        cases o with
        | dct xs => simp only [hn] at e; cases e; exact ⟨ty_dict R r ⟨n, rfl, .inl ⟨xs, hn⟩⟩, rfl⟩
        | dtp xs => simp only [hn] at e; cases e; exact ⟨ty_dict R r ⟨n, rfl, .inr ⟨xs, hn⟩⟩, rfl⟩
        | _ => simp only [hn] at e; cases e
    | _ => cases e
  have str : ∀ {m : Bm}, bmT m = "str" → tyM .join d h = .ok z h' → tyV X.K (bmT m) x H ∧ h' = h := fun {m} hm e => by
    rw [hm]
    cases d with
    | str s =>
      cases r
      cases e
      exact ⟨rfl, rfl⟩
    | _ => cases e
  cases m <;> first
    | exact lst rfl e
    | exact dct rfl e
    | exact str rfl e
theorem e_bm {m : Bm} {o : Expr} {name : Str} {l : List Expr} {ga : Sg → M Raw} {g : Sg → M (List D)} {ap pos : Pos} (hb : bmB m name = true) (hl : l.length = bmN m) (hn : notCall0 o = true) (hline : (ap.endLine == pos.line) = true) (hst : l.all notStar = true)
    (ho : PRw X ct E o ga) (ha : PAs X ct E l g) (hnil : l = [] → g = fun _ => M.pure []) :
    PRw X ct E (.Call (.Attribute o name ap) l [] pos) fun σ => (V3 (ga σ)).bind fun x => (tyM m x).bind fun _ => (g σ).bind fun xs => bmD m x xs := by
  -- the receiver, then the arguments
  have step : ∀ {r : V → List V → Hp → VK → Prop} {σ : L2.St} {H : Hp} {Q : VK}, (∀ x xs H Q, (∃ u h d ds, HR X.K ct u h H ∧ RV X.K u H d x ∧ RVs X.K u H ds xs ∧ PR X.K ct u H (bmD m d ds h) Q) → r x xs H Q) →
      tX X ct E (RW X.K) (fun σ => (V3 (ga σ)).bind fun x => (tyM m x).bind fun _ => (g σ).bind fun xs => bmD m x xs) σ H Q →
      tBM X.K (bmT m) r (tX X ct E (RD X.K) fun σ => V3 (ga σ)) (tX X ct E (RL X.K) g) σ H Q := fun {r σ H Q} hr ⟨u, σ3, h, S, R, q⟩ => by
    refine ⟨u, σ3, h, S, R, q.bind low_W fun x h1 _ u1 H1 v l1 R1 r1 q1 => ?_⟩
    have r1 : RV X.K u1 H1 x v := r1
    unfold M.bind at q1
    cases e : tyM m x h1 with
    | stuck => simp only [e] at q1; exact q1.elim
    | err c fs h2 =>
      exfalso
      cases m <;> (simp only [tyM] at e; repeat' (split at e)) <;> cases e
    | ok z h2 =>
      obtain ⟨ty, rfl⟩ := ty_of R1 r1 e
      simp only [e] at q1
      have q2 : Pg X.K ct (fun c fs u h H => E c fs u h H σ) (RW X.K) u1 H1 (((g σ3).bind fun xs => bmD m x xs) h2) Q := q1
      exact ⟨ty, u1, σ3, h2, S.up l1, R1, q2.bind low_W fun ds h2 _ u2 H2 vs l2 R2 r2 q3 => hr _ _ _ _ ⟨u2, h2, x, ds, R2, r1.up l2, r2, q3.pr⟩⟩
  have step0 : ∀ {r : V → List V → Hp → VK → Prop} {σ : L2.St} {H : Hp} {Q : VK}, l = [] → (∀ x xs H Q, (∃ u h d ds, HR X.K ct u h H ∧ RV X.K u H d x ∧ RVs X.K u H ds xs ∧ PR X.K ct u H (bmD m d ds h) Q) → r x xs H Q) →
      tX X ct E (RW X.K) (fun σ => (V3 (ga σ)).bind fun x => (tyM m x).bind fun _ => (g σ).bind fun xs => bmD m x xs) σ H Q →
      tBM0 X.K (bmT m) r (tX X ct E (RD X.K) fun σ => V3 (ga σ)) σ H Q := fun {r σ H Q} h0 hr z => by
    obtain ⟨u, σ3, h, S, R, q⟩ := step hr z
    refine ⟨u, σ3, h, S, R, q.imp fun v H1 ⟨ty, u1, σ4, h1, S1, R1, q1⟩ => ⟨ty, ?_⟩⟩
    rw [hnil h0] at q1
    exact q1 u1 H1 [] Later.refl R1 .nil
  have fin : ∀ {id : String} {r : V → List V → Hp → VK → Prop}, PlainAttrs (bmT m) → Slot (bmT m) name id → typeOf (.builtin id) = pure (.type "method_descriptor") → MtR X id r → (∀ x xs H Q, (∃ u h d ds, HR X.K ct u h H ∧ RV X.K u H d x ∧ RVs X.K u H ds xs ∧ PR X.K ct u H (bmD m d ds h) Q) → r x xs H Q) →
      PRw X ct E (.Call (.Attribute o name ap) l [] pos) fun σ => (V3 (ga σ)).bind fun x => (tyM m x).bind fun _ => (g σ).bind fun xs => bmD m x xs := fun {id r} pa slot hty hm hr => by
    cases l with
    | nil => exact PE.imp (pe_bm0 pa slot hty hm (PRw.val ho) (base_of hn) hline) fun σ H Q z => step0 rfl hr z
    | cons e es =>
      have hst2 := hst
      simp only [List.all_cons, Bool.and_eq_true] at hst2
      refine PE.imp (pe_bm pa slot hty hm (PRw.val ho) ha (base_of hn) ?_ hline (star_cons hst2.1) (star_any hst2.2)) fun σ H Q z => step hr z
      rw [star_all hst]
      show (true && true && decide ((e :: es).length + 0 + 0 < 30)) = true
      rw [decide_eq_true (by
        have : bmN m ≤ 2 := by cases m <;> decide
        omega)]
      rfl
  have u1 := Cok.u1 C
  cases m <;> first
    | (cases hb; done)
    | (have hx := (beq_iff_eq (α := Str)).mp hb
       subst hx
       first
         | exact fin PySem.F.plainAttrs_list PySem.F.slot_list_append PySem.F.type_list_append me_append fun _ _ _ _ z => z
         | exact fin PySem.F.plainAttrs_list PySem.F.slot_list_extend PySem.F.type_list_extend me_extend fun _ _ _ _ z => z
         | exact fin PySem.F.plainAttrs_list PySem.F.slot_list_pop PySem.F.type_list_pop me_pop0 fun _ _ _ _ z => z
         | exact fin PySem.F.plainAttrs_list PySem.F.slot_list_pop PySem.F.type_list_pop me_pop1 fun _ _ _ _ z => z
         | exact fin PySem.F.plainAttrs_dict PySem.F.slot_dict_get PySem.F.type_dict_get (me_get1 u1) fun _ _ _ _ z => z
         | exact fin PySem.F.plainAttrs_dict PySem.F.slot_dict_get PySem.F.type_dict_get (me_get2 u1) fun _ _ _ _ z => z
         | exact fin PySem.F.plainAttrs_dict PySem.F.slot_dict_setdefault PySem.F.type_dict_setdefault me_setdefault fun _ _ _ _ z => z)
end
end PX

/-! PXn: isinstance, displays of dicts, targets. -/
namespace PX
open PySem PySem.Spec PyProof.Rows L2
section
variable {K : Fr} {ct : Nat → Option Addr} {u u' : List Addr} {h : Hs} {H H' : Hp} {p : Addr} {o o' : HO}
/-- what was not there may be written -/
theorem Later.own (l : Later u H u' H') (hp : H p = none) : Later u H u' (upd H' p o) := by
  have ne : ∀ {a : Addr} {x : HO}, H a = some x → a ≠ p := fun {a x} e z => by rw [z, hp] at e; cases e
  refine ⟨l.pre, fun a vs e => ?_, fun a ob x e => ?_, fun a x e n => ?_, fun a e => ?_⟩
  · rw [upd_ne (ne e)]; exact l.tup a vs e
  · rw [upd_ne (ne e)]; exact l.frz a ob x e
  · rw [upd_ne (ne e)]; exact l.frm a x e n
  · by_cases z : a = p
    · rw [z]; exact hp
    · rw [upd_ne z] at e; exact l.liv a e
theorem Wk.own (e : H p = some o) (h1 : ∀ vs, o ≠ .tup vs) (h2 : ∀ ob x, o ≠ .frz ob x) : Wk u H u (upd H p o') := by
  refine ⟨fun _ _ z => z, fun a vs z => ?_, fun a ob x z => ?_⟩
  · have ne : a ≠ p := fun q => by rw [q, e] at z; exact h1 vs (Option.some.inj z)
    rw [upd_ne ne]; exact z
  · have ne : a ≠ p := fun q => by rw [q, e] at z; exact h2 ob x (Option.some.inj z)
    rw [upd_ne ne]; exact z
theorem HR.own (R : HR K ct u h H) (hp : p ∉ u) (e : H p = some o) (h1 : ∀ vs, o ≠ .tup vs) (h2 : ∀ ob x, o ≠ .frz ob x) : HR K ct u h (upd H p o') :=
  ⟨R.len, R.nd, fun n m a e1 ha => (R.ob n m a e1 ha).upw (Wk.own e h1 h2) (upd_ne fun z => hp (by rw [← z]; exact List.mem_of_getElem? ha))⟩
end
section
variable {T : Prog} {nm : Nm} {ct : Nat → Option Addr} {k : Nat} {X : Cx} {N : List Str} {sc : Scope} {fb : Str → Bool} {E : Et}
/-! ### isinstance -/
theorem kind_ty {x : V} {d : D} {u : List Addr} {h : Hs} {H : Hp} {kd : Str} (R : HR X.K ct u h H) (r : RV X.K u H d x) (e : kindD h d = some kd) :
    ∃ t : String, kd = Str.ofString t ∧ t ∈ ["NoneType", "bool", "int", "str", "tuple", "list", "dict"] ∧ TyX X.K H x (.type t) := by
  cases r with
  | non => cases e; exact ⟨"NoneType", rfl, by simp, .base .non⟩
  | bl b => cases e; exact ⟨"bool", rfl, by simp, .base (.bl b)⟩
  | int b => cases e; exact ⟨"int", rfl, by simp, .base (.int b)⟩
  | str b => cases e; exact ⟨"str", rfl, by simp, .base (.str b)⟩
  | tup ha _ => cases e; exact ⟨"tuple", rfl, by simp, .base (.tup ha)⟩
  | lst ha _ =>
    cases e
    rcases ha with ⟨o, ha⟩ | ⟨its, n, ha, _⟩
    · exact ⟨"list", rfl, by simp, .base (.frz ha)⟩
    · exact ⟨"list", rfl, by simp, .kList ha rfl⟩
  | @ref n a ha =>
    unfold kindD at e
    cases hn : h[n]? with
    | none => simp only [hn] at e; cases e
    | some o =>
      have z := R.ob n o a hn ha
      cases o with
      | lst xs => simp only [hn] at e; cases e; obtain ⟨vs, e1, _⟩ := z; exact ⟨"list", rfl, by simp, .base (.lst e1)⟩
      | frz xs => simp only [hn] at e; cases e; obtain ⟨vs, o, e1, _⟩ := z; exact ⟨"list", rfl, by simp, .base (.frz e1)⟩
      | dct xs => simp only [hn] at e; cases e; obtain ⟨vs, e1, _⟩ := z; exact ⟨"dict", rfl, by simp, .base (.dK e1)⟩
      | dtp xs => simp only [hn] at e; cases e; obtain ⟨vs, e1, _⟩ := z; exact ⟨"dict", rfl, by simp, .base (.dT e1)⟩
      | ins c fs => simp only [hn] at e; cases e
def ityT : Ity → String
  | .int => "int"
  | .bool => "bool"
  | .str => "str"
  | .tuple => "tuple"
  | .list => "list"
  | .dict => "dict"
  | .cls _ => ""
theorem kit_kind {K : Fr} {t : Ity} (ht : ∀ c, t ≠ .cls c) {s : String} (hs : s ∈ ["NoneType", "bool", "int", "str", "tuple", "list", "dict"]) : PySem.W.kitOne K (.type s) (.type (ityT t)) = some (isTy (Str.ofString s) t) := by
  simp only [List.mem_cons, List.not_mem_nil, or_false] at hs
  rcases hs with rfl | rfl | rfl | rfl | rfl | rfl | rfl <;> cases t <;> first
    | exact kit_ty (by decide +kernel)
    | exact absurd rfl (ht _)
variable (C : Cok T nm ct k X N sc fb E)
include C
theorem e_isi {t : Ity} {x y : Str} {e : Expr} {ga : Sg → M Raw} {p py pos : Pos} (h1 : (x == "isinstance") = true) (h2 : nm.free x = true) (h3 : gloB sc x = true) (hn : notStar e = true) (ht : ityB nm t y = true) (h4 : gloB sc y = true) (h5 : dbgB y = true) (ha : PRw X ct E e ga) :
    PRw X ct E (.Call (.Name x p) [e, .Name y py] [] pos) fun σ => (V3 (ga σ)).bind fun x => isiM x [t] := by
  have hx := (beq_iff_eq (α := Str)).mp h1
  subst hx
  have ty : PE X (.Name y py) (tC (.ty (ityT t))) ∧ ∀ c, t ≠ .cls c := by
    have gy := e_gl C h4
    have fin : ∀ {z : Str} {n : String}, (y == z && nm.free y) = true → bootBuiltins z = some (.type n) → z ≠ "__name__" → (z == ("__debug__" : Str)) = false → PE X (.Name y py) (tC (.ty n)) := fun {z n} q hb hn hd => by
      simp only [Bool.and_eq_true, beq_iff_eq] at q
      obtain ⟨rfl, q⟩ := q
      exact pe_bltn gy (C.wd.free _ q) hb rfl hn hd
    cases t with
    | int => exact ⟨fin ht (by decide +kernel) (by decide) (by decide), fun c z => nomatch z⟩
    | bool => exact ⟨fin ht (by decide +kernel) (by decide) (by decide), fun c z => nomatch z⟩
    | str => exact ⟨fin ht (by decide +kernel) (by decide) (by decide), fun c z => nomatch z⟩
    | tuple => exact ⟨fin ht (by decide +kernel) (by decide) (by decide), fun c z => nomatch z⟩
    | list => exact ⟨fin ht (by decide +kernel) (by decide) (by decide), fun c z => nomatch z⟩
    | dict => exact ⟨fin ht (by decide +kernel) (by decide) (by decide), fun c z => nomatch z⟩
    | cls c => cases ht
  refine PE.imp (pe_callB call_isi (e_gl C h3) (C.wd.free _ h2) (by decide +kernel) (pa_cons (PRw.val ha) (pa_cons ty.1 pa_nil) (star_cons hn)) (by decide) (by decide) (star_cons hn)) fun σ H Q ⟨u, σ3, h, S, R, q⟩ => ⟨u, σ3, h, S, R, q.bind low_W fun x h1 _ u1 H1 v l1 R1 r1 q1 => ?_⟩
  have r1 : RV X.K u1 H1 x v := r1
  unfold isiM at q1
  cases hk : kindD h1 x with
  | none => simp only [hk] at q1; exact q1.elim
  | some kd =>
    simp only [hk] at q1
    obtain ⟨s, rfl, hm, tyx⟩ := kind_ty R1 r1 hk
    refine ⟨v, .ty (ityT t), .type s, .type (ityT t), isTy (Str.ofString s) t, rfl, .ty _, tyx, kit_kind ty.2 hm, ?_⟩
    have e1 : ([t].any fun t => isTy (Str.ofString s) t) = isTy (Str.ofString s) t := by simp
    rw [e1] at q1
    exact q1 u1 H1 _ Later.refl R1 (.bl _)
/-! ### displays of dicts -/
omit C in
theorem e_dic0 {pos : Pos} : PRw X ct E (.Dict [] [] pos) fun _ => alloc (.dtp []) :=
  PE.imp pe_dnewT fun σ H Q ⟨u, σ3, h, S, R, q⟩ p hp => q (u ++ [p]) _ (.ref p) ((Later.new hp).nameNew hp) ((R.new hp).name (R.notIn hp) ⟨[], upd_same, .nil⟩) (.ref (by rw [← R.len, List.getElem?_append_right (Nat.le_refl _), Nat.sub_self]; rfl))
omit C in
theorem e_dicN {pos : Pos} : PRw X ct E (.Dict [] [] pos) fun _ => (M.pure [] : M (List D)).bind fun xs => if xs.length ≤ 30 then dictM xs [] else M.stuck :=
  PE.imp pe_dnewK fun σ H Q ⟨u, σ3, h, S, R, q⟩ p hp => q (u ++ [p]) _ (.ref p) ((Later.new hp).nameNew hp) ((R.new hp).name (R.notIn hp) ⟨[], upd_same, .nil⟩) (.ref (by rw [← R.len, List.getElem?_append_right (Nat.le_refl _), Nat.sub_self]; rfl))
/-- pairs by turns -/
inductive PPd (X : Cx) (ct : Nat → Option Addr) (E : Et) : List (Option Expr) → List Expr → (Sg → M (List D)) → Prop
  | nil : PPd X ct E [] [] fun _ => M.pure []
  | cons {a b : Expr} {ks : List (Option Expr)} {vs : List Expr} {ga gb : Sg → M Raw} {gr : Sg → M (List D)} : PRw X ct E a ga → PRw X ct E b gb → PPd X ct E ks vs gr →
      PPd X ct E (some a :: ks) (b :: vs) fun σ => (V3 (ga σ)).bind fun x => ((V3 (gb σ)).bind fun y => (gr σ).bind fun xs => M.pure (y :: xs)).bind fun xs => M.pure (x :: xs)
/-- the pairs, as the data say -/
inductive RPs (K : Fr) (u : List Addr) (H : Hp) : List D → List (V × V) → Prop
  | nil : RPs K u H [] []
  | cons {a b : D} {x y : V} {ds : List D} {ps : List (V × V)} : RV K u H a x → RV K u H b y → RPs K u H ds ps → RPs K u H (a :: b :: ds) ((x, y) :: ps)
omit C in
theorem RPs.length {K : Fr} {u : List Addr} {H : Hp} {ds : List D} {ps : List (V × V)} (r : RPs K u H ds ps) : ds.length = 2 * ps.length := by
  induction r with
  | nil => rfl
  | cons _ _ _ ih => rw [List.length_cons, List.length_cons, List.length_cons, ih]; omega
omit C in
theorem by_turns (ma mb : M D) (mr : M (List D)) : (ma.bind fun x => (mb.bind fun y => mr.bind fun xs => M.pure (y :: xs)).bind fun xs => M.pure (x :: xs)) = ma.bind fun x => mb.bind fun y => mr.bind fun xs => M.pure (x :: y :: xs) := by
  simp only [M.bind_assoc, M.pure_bind]
omit C in
theorem pairs_ok {ks : List (Option Expr)} {vs : List Expr} {g : Sg → M (List D)} {pos : Pos} (h : PPd X ct E ks vs g) : ks.length = vs.length ∧ ks.all (·.isSome) = true ∧ ∃ trs, PPs X pos ks vs trs ∧ ∀ (u : List Addr) (h : Hs) (H : Hp) (σ3 : Sg) (σ : L2.St) (Q : List (V × V) → Hp → Prop),
    RS X.K u H σ3 σ → HR X.K ct u h H → Pg X.K ct (fun c fs u h H => E c fs u h H σ) (fun ds _ u H ps => RPs X.K u H ds ps) u H (g σ3 h) Q → tPairs trs σ H Q := by
  induction h with
  | nil => exact ⟨rfl, rfl, [], pps_nil, fun u h H σ3 σ Q S R q => q u H [] Later.refl R .nil⟩
  | @cons a b ks vs ga gb gr ha hb hr ih =>
    obtain ⟨e1, e2, trs, hp, ih⟩ := ih
    refine ⟨by simp [e1], by simpa using e2, _, pps_cons (PRw.val ha) (PRw.val hb) hp, fun u h H σ3 σ Q S R q => ?_⟩
    have lw : Low (fun (ds : List D) (_ : Hp) (u : List Addr) (H : Hp) (ps : List (V × V)) => RPs X.K u H ds ps) := fun _ _ _ _ _ _ _ r => r
    have q : Pg X.K ct (fun c fs u h H => E c fs u h H σ) (fun ds _ u H ps => RPs X.K u H ds ps) u H (((V3 (ga σ3)).bind fun x => (V3 (gb σ3)).bind fun y => (gr σ3).bind fun xs => M.pure (x :: y :: xs)) h) Q := by
      rw [← by_turns]
      exact q
    refine ⟨u, σ3, h, S, R, q.bind lw fun x h1 _ u1 H1 v l1 R1 r1 q1 => ?_⟩
    refine ⟨u1, σ3, h1, S.up l1, R1, q1.bind lw fun y h2 _ u2 H2 w l2 R2 r2 q2 => ?_⟩
    exact ih u2 h2 H2 σ3 σ _ ((S.up l1).up l2) R2 (q2.bind lw fun xs h3 _ u3 H3 ps l3 R3 r3 q3 => q3 u3 H3 _ Later.refl R3 (.cons ((RV.up r1 l2).up l3) (RV.up r2 l3) r3))
omit C in
/-- the keys of pairs -/
theorem dict_pairs {K : Fr} {u : List Addr} {H : Hp} : ∀ {ds : List D} {ps : List (V × V)} {acc : List (Key × D)} {accV : List (Key × V)} {h : Hs}, RPs K u H ds ps → dictM ds acc h ≠ .stuck → RKs K u H acc accV →
    ∃ (kvs : List (Key × V)) (kvd : List (Key × D)), ps = kvs.map (fun kv => (kV kv.1, kv.2)) ∧ dictM ds acc h = .ok (.val (.ref h.length)) (h ++ [.dct kvd]) ∧ RKs K u H kvd (mergeK accV kvs)
  | _, _, acc, accV, h, .nil, _, r => ⟨[], acc, rfl, rfl, r⟩
  | _, _, acc, accV, h, @RPs.cons _ _ _ a b x y ds ps ra rb rest, ne, r => by
    simp only [dictM] at ne ⊢
    cases ek : keyD a with
    | none => rw [ek] at ne; exact absurd rfl ne
    | some k =>
      rw [ek] at ne
      simp only at ne ⊢
      obtain ⟨kvs, kvd, e1, e2, e3⟩ := dict_pairs rest ne (r.put k rb)
      have ex : x = kV k := keyD_of ra ek
      exact ⟨(k, y) :: kvs, kvd, by rw [List.map_cons, ← e1, ex], e2, e3⟩
omit C in
theorem e_dic {ks : List (Option Expr)} {vs : List Expr} {g : Sg → M (List D)} {pos : Pos} (h : PPd X ct E ks vs g) (h15 : ks.length ≤ 15) : PRw X ct E (.Dict ks vs pos) fun σ => (g σ).bind fun xs => if xs.length ≤ 30 then dictM xs [] else M.stuck := by
  by_cases h0 : ks = []
  · subst h0
    cases h
    exact e_dicN
  · obtain ⟨hl, hall, trs, hp, hq⟩ := pairs_ok (pos := pos) h
    refine PE.imp (pe_disp hp hall hl h0 h15) fun σ H Q ⟨u, σ3, h, S, R, q⟩ p hpn => ?_
    have l0 : Later u H u (upd H p (.dK [])) := Later.new hpn
    refine hq u h _ σ3 σ _ (S.up l0) (R.new hpn) ?_
    have q : Pg X.K ct (fun c fs u h H => E c fs u h H σ) (RW X.K) u H (((g σ3).bind fun xs => if xs.length ≤ 30 then dictM xs [] else M.stuck) h) Q := q
    unfold M.bind at q
    cases e : g σ3 h with
    | stuck => rw [e] at q; exact q.elim
    | err c fs h1 => rw [e] at q; exact fun u1 H1 l1 R1 => q u1 H1 (l0.trans l1) R1
    | ok ds h1 =>
      rw [e] at q
      intro u1 H1 ps l1 R1 r1
      have r1 : RPs X.K u1 H1 ds ps := r1
      have npu : p ∉ u := R.notIn hpn
      have ep : H1 p = some (.dK []) := l1.frm p _ upd_same npu
      have np1 : p ∉ u1 := fun z => by
        obtain ⟨w, rfl, hw⟩ := l1.pre
        rcases List.mem_append.mp z with z | z
        · exact npu z
        · have := hw p z
          rw [upd_same] at this
          cases this
      simp only at q
      split at q
      · rename_i h30
        obtain ⟨kvs, kvd, e1, e2, e3⟩ := dict_pairs (acc := []) (accV := []) (h := h1) r1 (fun z => by rw [z] at q; exact q) .nil
        refine ⟨ep, kvs, e1, ?_, ?_⟩
        · have := r1.length
          rw [e1, List.length_map] at this
          omega
        · rw [e2] at q
          exact q (u1 ++ [p]) _ (.ref p) (((l0.trans l1).own hpn).nameNew hpn) ((R1.own np1 ep (fun _ z => nomatch z) (fun _ _ z => nomatch z)).name np1 ⟨_, upd_same, (e3.upw (Wk.own ep (fun _ z => nomatch z) (fun _ _ z => nomatch z))).upw Wk.more⟩)
            (.ref (by rw [← R1.len, List.getElem?_append_right (Nat.le_refl _), Nat.sub_self]; rfl))
      · exact q.elim
end
end PX

/-! PXo: targets, comprehensions. -/
namespace PX
open PySem PySem.Spec PyProof.Rows L2
/-- nothing may be raised -/
def E0 : Et := fun _ _ _ _ _ _ => False
/-- only the slots own changed -/
def Zr (own : List Nat) (σ σ' : L2.St) : Prop := σ'.length = σ.length ∧ ∀ j, j ∉ own → σ'[j]? = σ[j]?
theorem Zr.refl {own : List Nat} {σ : L2.St} : Zr own σ σ := ⟨rfl, fun _ _ => rfl⟩
theorem Zr.trans {own : List Nat} {σ σ1 σ2 : L2.St} (a : Zr own σ σ1) (b : Zr own σ1 σ2) : Zr own σ σ2 := ⟨b.1.trans a.1, fun j hj => (b.2 j hj).trans (a.2 j hj)⟩
theorem Zr.set {own : List Nat} {σ : L2.St} {i : Nat} {v : Option V} (h : i ∈ own) : Zr own σ (σ.set i v) := ⟨List.length_set .., fun j hj => List.getElem?_set_ne fun e => hj (by rw [← e]; exact h)⟩
theorem wipe_get (σ : L2.St) : ∀ (vs : List Nat) (j : Nat), (wipe σ vs)[j]? = if j ∈ vs ∧ j < σ.length then some none else σ[j]?
  | [], j => by simp [wipe]
  | v :: vs, j => by
    unfold wipe
    by_cases e : v = j
    · subst e
      by_cases hl : v < σ.length
      · rw [List.getElem?_set_self (by rw [wipe_length]; exact hl), if_pos ⟨List.mem_cons_self, hl⟩]
      · rw [List.getElem?_eq_none (by rw [List.length_set, wipe_length]; omega), if_neg (fun z => hl z.2), List.getElem?_eq_none (by omega)]
    · rw [List.getElem?_set_ne e, wipe_get σ vs j]
      simp [List.mem_cons, Ne.symm e]
theorem Zr.wipe {own : List Nat} {σ σ' : L2.St} (z : Zr own σ σ') : L2.wipe σ' own = L2.wipe σ own := by
  apply List.ext_getElem?
  intro j
  rw [wipe_get, wipe_get, z.1]
  by_cases h : j ∈ own
  · by_cases hl : j < σ.length
    · rw [if_pos ⟨h, hl⟩, if_pos ⟨h, hl⟩]
    · rw [if_neg (fun q => hl q.2), if_neg (fun q => hl q.2), List.getElem?_eq_none (by rw [z.1]; omega), List.getElem?_eq_none (by omega)]
  · rw [if_neg (fun q => h q.1), if_neg (fun q => h q.1)]
    exact z.2 j h
theorem wipe_idem {own : List Nat} {σ : L2.St} : L2.wipe (L2.wipe σ own) own = L2.wipe σ own := by
  refine Zr.wipe ⟨wipe_length σ own, fun j hj => ?_⟩
  rw [wipe_get, if_neg (fun q => hj q.1)]
theorem wipeD_get (σ : Sg) : ∀ (vs : List Nat) (j : Nat) (d : D), (wipeD σ vs)[j]? = some (some d) → σ[j]? = some (some d) ∧ j ∉ vs
  | [], j, d, h => ⟨h, by simp⟩
  | v :: vs, j, d, h => by
    unfold wipeD at h
    by_cases e : v = j
    · subst e
      by_cases hv : v < (wipeD σ vs).length
      · rw [List.getElem?_set_self hv] at h; cases h
      · rw [List.getElem?_eq_none (by simpa using hv)] at h; cases h
    · rw [List.getElem?_set_ne e] at h
      obtain ⟨h1, h2⟩ := wipeD_get σ vs j d h
      exact ⟨h1, by simp [h2, Ne.symm e]⟩
theorem wipeD_length (σ : Sg) : ∀ vs : List Nat, (wipeD σ vs).length = σ.length
  | [] => rfl
  | v :: vs => by unfold wipeD; rw [List.length_set, wipeD_length σ vs]
section
variable {K : Fr} {ct : Nat → Option Addr} {u u' : List Addr} {h : Hs} {H H' : Hp} {σ3 : Sg} {σ : L2.St}
theorem RS.wipe (S : RS K u H σ3 σ) (vs : List Nat) : RS K u H (wipeD σ3 vs) (L2.wipe σ vs) := by
  refine ⟨by rw [wipeD_length, wipe_length]; exact S.1, fun i d e => ?_⟩
  obtain ⟨e1, e2⟩ := wipeD_get σ3 vs i d e
  obtain ⟨v, h1, h2⟩ := S.2 i d e1
  exact ⟨v, by rw [wipe_get, if_neg (fun q => e2 q.1)]; exact h1, h2⟩
theorem RS.set (S : RS K u H σ3 σ) {d : D} {v : V} (r : RV K u H d v) (i : Nat) : RS K u H (σ3.set i (some d)) (σ.set i (some v)) := by
  refine ⟨by rw [List.length_set, List.length_set]; exact S.1, fun j e h => ?_⟩
  by_cases q : i = j
  · subst q
    have hl : i < σ3.length := by
      have := (List.getElem?_eq_some_iff.mp h).1
      rwa [List.length_set] at this
    rw [List.getElem?_set_self hl] at h
    cases h
    exact ⟨v, List.getElem?_set_self (by rw [← S.1]; exact hl), r⟩
  · rw [List.getElem?_set_ne q] at h
    obtain ⟨w, h1, h2⟩ := S.2 j e h
    exact ⟨w, by rw [List.getElem?_set_ne q]; exact h1, h2⟩
end
/-! ### targets -/
section
variable {T : Prog} {nm : Nm} {ct : Nat → Option Addr} {k : Nat} {X : Cx} {N : List Str} {sc : Scope} {fb : Str → Bool} {E : Et} {own : List Nat}
/-- the slots behind a target -/
def RG (K : Fr) (own : List Nat) (σ0 : L2.St) : Sg → Hp → List Addr → Hp → L2.St → Prop := fun σ3 _ u H σ => RS K u H σ3 σ ∧ Zr own σ0 σ
theorem low_G {K : Fr} {own : List Nat} {σ0 : L2.St} : Low (RG K own σ0) := fun _ _ _ _ _ _ _ r => r
def N0 : Ft := fun _ _ _ _ _ => False
def gX (X : Cx) (ct : Nat → Option Addr) (own : List Nat) (g : D → Sg → M Sg) : TG := fun v σ H Q => ∃ u σ3 h d, RS X.K u H σ3 σ ∧ HR X.K ct u h H ∧ RV X.K u H d v ∧ Pg X.K ct N0 (RG X.K own σ) u H (g d σ3 h) Q
def gsX (X : Cx) (ct : Nat → Option Addr) (own : List Nat) (g : List D → Sg → M Sg) : TGs := fun vs σ H Q => ∃ u σ3 h ds, RS X.K u H σ3 σ ∧ HR X.K ct u h H ∧ RVs X.K u H ds vs ∧ Pg X.K ct N0 (RG X.K own σ) u H (g ds σ3 h) Q
abbrev PGx (X : Cx) (ct : Nat → Option Addr) (own : List Nat) (e : Expr) (g : D → Sg → M Sg) : Prop := PG X e (gX X ct own g)
abbrev PGsx (X : Cx) (ct : Nat → Option Addr) (own : List Nat) (e : List Expr) (g : List D → Sg → M Sg) : Prop := PGs X e (gsX X ct own g)
theorem PG.imp {e : Expr} {t t' : TG} (he : PG X e t) (k : ∀ v σ H Q, t' v σ H Q → t v σ H Q) : PG X e t' := ⟨fun pins s σ H v u Q I r h => he.run pins s σ H v u Q I r (k v σ H Q h)⟩
theorem PGs.imp {e : List Expr} {t t' : TGs} (he : PGs X e t) (k : ∀ v σ H Q, t' v σ H Q → t v σ H Q) : PGs X e t' := ⟨fun pins s σ H v u Q I r h => he.run pins s σ H v u Q I r (k v σ H Q h)⟩
theorem gs_nil : PGsx X ct own [] fun ds σ => match ds with
    | [] => M.pure σ
    | _ => M.stuck :=
  PGs.imp pgs_nil fun vs σ H Q ⟨u, σ3, h, ds, S, R, r, q⟩ => by
    cases r with
    | nil => exact ⟨rfl, q u H σ Later.refl R ⟨S, Zr.refl⟩⟩
    | cons _ _ => exact q.elim
theorem gs_cons {e : Expr} {es : List Expr} {g : D → Sg → M Sg} {gr : List D → Sg → M Sg} (hn : notStar e = true) (h1 : PGx X ct own e g) (h2 : PGsx X ct own es gr) : PGsx X ct own (e :: es) fun ds σ => match ds with
    | x :: xs => (g x σ).bind fun σ2 => gr xs σ2
    | _ => M.stuck := by
  refine PGs.imp (pgs_cons h1 h2 (by cases e <;> first | rfl | cases hn)) fun vs σ H Q ⟨u, σ3, h, ds, S, R, r, q⟩ => ?_
  cases r with
  | nil => exact q.elim
  | @cons d ds v vs r rr =>
    have q : Pg X.K ct N0 (RG X.K own σ) u H (((g d σ3).bind fun σ2 => gr ds σ2) h) Q := q
    refine ⟨v, vs, rfl, u, σ3, h, d, S, R, r, q.bind low_G fun σ4 h1 _ u1 H1 σ' l1 R1 r1 q1 => ?_⟩
    refine ⟨u1, σ4, h1, ds, r1.1, R1, rr.up l1, ?_⟩
    cases e : gr ds σ4 h1 with
    | ok a h' =>
      rw [e] at q1
      exact fun u' H' b l R' r' => q1 u' H' b l R' ⟨r'.1, r1.2.trans r'.2⟩
    | err c fs h' =>
      rw [e] at q1
      exact q1
    | stuck => rw [e] at q1; exact q1.elim
variable (C : Cok T nm ct k X N sc fb E)
include C
theorem g_name {i : Nat} {x : Str} {pos : Pos} (hi : N[i]? = some x) (ho : i ∈ own) (hl : (decide (sc.names.lookup x = some .local) || decide (sc.names.lookup x = some .cell) && fb x) = true) : PGx X ct own (.Name x pos) fun d σ => putN i d σ := by
  simp only [Bool.or_eq_true, Bool.and_eq_true, decide_eq_true_eq] at hl
  have h1 : Loc X.env.scope x ∧ (X.fn x = true ∨ X.env.scope.names.lookup x = some .local) := by
    rw [C.hs]
    rcases hl with h | ⟨h, h'⟩
    · exact ⟨.inl h, .inr h⟩
    · exact ⟨.inr h, .inl (C.hf x h')⟩
  refine PG.imp (pg_name (by rw [C.hN]; exact C.nd) (by rw [C.hN]; exact hi) h1.1 h1.2) fun v σ H Q ⟨u, σ3, h, d, S, R, r, q⟩ => ?_
  exact q u H _ Later.refl R ⟨S.set r i, Zr.set ho⟩
omit C in
theorem each_len {env : Env} : ∀ {es : List Expr}, es.all notStar = true → (assignEach es env).length = es.length ∧ (assignEach es env).findIdx? (·.1) = none
  | [], _ => ⟨rfl, rfl⟩
  | e :: es, h => by
    simp only [List.all_cons, Bool.and_eq_true] at h
    have e1 : assignEach (e :: es) env = (false, assign e env) :: assignEach es env := by
      have := h.1
      cases e <;> first | rfl | cases this
    obtain ⟨h1, h2⟩ := each_len (env := env) h.2
    rw [e1]
    refine ⟨by simp [h1], ?_⟩
    rw [List.findIdx?_cons, h2]
    rfl
theorem g_tup {es : List Expr} {kk : Nat} {g : List D → Sg → M Sg} {pos : Pos} (hst : es.all notStar = true) (h : PGsx X ct own es g) : PGx X ct own (.Tuple es kk pos) fun d σ => match d with
    | .tup xs => if xs.length = es.length then g xs σ else M.stuck
    | _ => M.stuck := by
  refine PG.imp (pg_tup C.calm h (each_len hst).1 (each_len hst).2) fun v σ H Q ⟨u, σ3, h, d, S, R, r, q⟩ => ?_
  cases r with
  | @tup a vs ds ha hr =>
    have q : Pg X.K ct N0 (RG X.K own σ) u H ((if ds.length = es.length then g ds σ3 else M.stuck : M Sg) h) Q := q
    split at q
    · rename_i hl
      exact ⟨a, vs, rfl, .inl (.inl ha), by rw [← hr.length]; exact hl, u, σ3, h, ds, S, R, hr, q⟩
    · exact q.elim
  | _ => exact q.elim
omit C in
theorem takes_none : Takes X fun cv dx σ H => ∃ c fs u h, XR X.K ct c fs u H cv dx ∧ HR X.K ct u h H ∧ E0 c fs u h H σ :=
  fun _ _ ⟨_, _, _, _, _, _, _, _, _, _, _, _, _, _, _, _, w⟩ => by
    obtain ⟨_, _, _, _, _, _, z⟩ := w
    exact z.elim
theorem Cok.none : Cok T nm ct k X N sc fb E0 := ⟨C.wd, C.hN, C.hs, C.hf, C.calm, C.room, C.nd, takes_none⟩
omit C in
theorem g_sub {a b : Expr} {ga gb : Sg → M Raw} {pos : Pos} (C0 : Cok T nm ct k X N sc fb E0) (ha : PRw X ct E0 a ga) (hb : PRw X ct E0 b gb) (hn : notSlice b = true) : PGx X ct own (.Subscript a b pos) fun d σ => (V3 (ga σ)).bind fun x => (V3 (gb σ)).bind fun y => (setD x y d).bind fun _ => M.pure σ := by
  refine PG.imp (pg_sub (PRw.val ha) (PRw.val hb) (set_ok (ct := ct) (Cok.u1 C0)) (by intro v; cases b <;> first | rfl | cases hn)) fun v σ H Q ⟨u, σ3, h, d, S, R, r, q⟩ => ⟨u, σ3, h, S, R, Pg.wish (q.bind low_G fun x h1 _ u1 H1 w l1 R1 r1 q1 => ?_) fun _ _ _ _ _ _ z => z⟩
  refine ⟨u1, σ3, h1, S.up l1, R1, Pg.wish (q1.bind low_G fun y h2 _ u2 H2 w2 l2 R2 r2 q2 => ?_) fun _ _ _ _ _ _ z => z⟩
  unfold M.bind at q2
  cases e : setD x y d h2 with
  | ok z h3 =>
    rw [e] at q2
    exact ⟨u2, h2, x, y, d, h3, R2, RV.up r1 l2, r2, (r.up l1).up l2, e, fun H' l R' => q2 u2 H' σ l R' ⟨((S.up l1).up l2).up l, Zr.refl⟩⟩
  | err c fs h3 =>
    exfalso
    unfold setD at e
    repeat' (split at e)
    all_goals cases e
  | stuck => rw [e] at q2; exact q2.elim
end
end PX

/-! PXp: comprehensions. -/
namespace PX
open PySem PySem.Spec PyProof.Rows L2
/-- a turn of a comprehension: nothing or an item -/
def turnC {α : Type} (ga : D → Sg → M Sg) (gt : Sg → M Bool) (ge : Sg → M α) (σw : Sg) : D → M (Option α) := fun x => (ga x σw).bind fun σ2 => (gt σ2).bind fun b => if b then (ge σ2).bind fun y => M.pure (some y) else M.pure none
def RO {α β : Type} (R : α → Hp → List Addr → Hp → β → Prop) : Option α → Hp → List Addr → Hp → Option β → Prop := fun o H0 u H v => match o, v with
  | none, none => True
  | some d, some x => R d H0 u H x
  | _, _ => False
theorem low_O {α β : Type} {R : α → Hp → List Addr → Hp → β → Prop} (lw : Low R) : Low (RO R) := fun a H0 H1 u H b k r => by
  cases a with
  | none => cases b <;> exact r
  | some d =>
    cases b with
    | none => exact r
    | some x => exact lw d H0 H1 u H x k r
theorem compI_ok (turn : D → M (Option D)) (g : Grd) : ∀ (ds acc : List D) (h : Hs), (∃ a h', compI turn g ds acc h = .ok a h') ∨ compI turn g ds acc h = .stuck
  | [], acc, h => .inl ⟨acc, h, rfl⟩
  | x :: xs, acc, h => by
    unfold compI
    split
    · split
      · exact compI_ok turn g xs acc _
      · exact .inr rfl
    · split
      · exact compI_ok turn g xs _ _
      · exact .inr rfl
    · exact .inr rfl
theorem compsI_ok (turn : D → List D → M (List D)) (g : Grd) : ∀ (ds acc : List D) (h : Hs), (∃ a h', compsI turn g ds acc h = .ok a h') ∨ compsI turn g ds acc h = .stuck
  | [], acc, h => .inl ⟨acc, h, rfl⟩
  | x :: xs, acc, h => by
    unfold compsI
    split
    · split
      · exact compsI_ok turn g xs _ _
      · exact .inr rfl
    · exact .inr rfl
theorem compK_ok (turn : D → M (Option (D × D))) (g : Grd) : ∀ (ds : List D) (acc : List (Key × D)) (h : Hs), (∃ a h', compK turn g ds acc h = .ok a h') ∨ compK turn g ds acc h = .stuck
  | [], acc, h => .inl ⟨acc, h, rfl⟩
  | x :: xs, acc, h => by
    unfold compK
    split
    · split
      · exact compK_ok turn g xs _ _
      · exact .inr rfl
    · split
      · split
        · exact compK_ok turn g xs _ _
        · exact .inr rfl
      · exact .inr rfl
    · exact .inr rfl
/-- one turn taken apart -/
theorem compI_step {turn : D → M (Option D)} {g : Grd} {x : D} {xs acc accF : List D} {h hF : Hs} (e : compI turn g (x :: xs) acc h = .ok accF hF) :
    ∃ o h1, turn x h = .ok o h1 ∧ grdOk h1 g = true ∧ (match o with
      | none => compI turn g xs acc h1 = .ok accF hF
      | some y => acc.length < lim ∧ compI turn g xs (acc ++ [y]) h1 = .ok accF hF) := by
  unfold compI at e
  cases et : turn x h with
  | ok o h1 =>
    rw [et] at e
    cases o with
    | none =>
      simp only at e
      split at e
      · rename_i hg
        exact ⟨none, h1, rfl, hg, e⟩
      · cases e
    | some y =>
      simp only at e
      split at e
      · rename_i hg
        exact ⟨some y, h1, rfl, hg.1, hg.2, e⟩
      · cases e
  | err c fs h1 => rw [et] at e; cases e
  | stuck => rw [et] at e; cases e
theorem compK_step {turn : D → M (Option (D × D))} {g : Grd} {x : D} {xs : List D} {acc accF : List (Key × D)} {h hF : Hs} (e : compK turn g (x :: xs) acc h = .ok accF hF) :
    ∃ o h1, turn x h = .ok o h1 ∧ grdOk h1 g = true ∧ (match o with
      | none => compK turn g xs acc h1 = .ok accF hF
      | some (a, v) => ∃ k, keyD a = some k ∧ acc.length < lim ∧ compK turn g xs (putKD acc k v) h1 = .ok accF hF) := by
  unfold compK at e
  cases et : turn x h with
  | ok o h1 =>
    rw [et] at e
    cases o with
    | none =>
      simp only at e
      split at e
      · rename_i hg
        exact ⟨none, h1, rfl, hg, e⟩
      · cases e
    | some y =>
      obtain ⟨a, v⟩ := y
      simp only at e
      cases ek : keyD a with
      | none => rw [ek] at e; cases e
      | some kk =>
        rw [ek] at e
        simp only at e
        split at e
        · rename_i hg
          exact ⟨some (a, v), h1, rfl, hg.1, kk, ek, hg.2, e⟩
        · cases e
  | err c fs h1 => rw [et] at e; cases e
  | stuck => rw [et] at e; cases e
theorem compsI_step {turn : D → List D → M (List D)} {g : Grd} {x : D} {xs acc accF : List D} {h hF : Hs} (e : compsI turn g (x :: xs) acc h = .ok accF hF) :
    ∃ acc1 h1, turn x acc h = .ok acc1 h1 ∧ grdOk h1 g = true ∧ compsI turn g xs acc1 h1 = .ok accF hF := by
  unfold compsI at e
  cases et : turn x acc h with
  | ok acc1 h1 =>
    rw [et] at e
    simp only at e
    split at e
    · rename_i hg
      exact ⟨acc1, h1, rfl, hg, e⟩
    · cases e
  | err c fs h1 => rw [et] at e; cases e
  | stuck => rw [et] at e; cases e
/-- a new thing of ours stays and has no number -/
theorem Later.mine {u u' : List Addr} {H H' : Hp} {p : Addr} {o : HO} (l : Later u H u' H') (n : p ∉ u) (e : H p = some o) : p ∉ u' ∧ H' p = some o := by
  refine ⟨fun z => ?_, l.frm p o e n⟩
  obtain ⟨w, rfl, hw⟩ := l.pre
  rcases List.mem_append.mp z with z | z
  · exact n z
  · rw [hw p z] at e
    cases e
section
variable {T : Prog} {nm : Nm} {ct : Nat → Option Addr} {k : Nat} {X : Cx} {N : List Str} {sc : Scope} {fb : Str → Bool} {E : Et}
/-- where a comprehension over ds stands -/
def CI (X : Cx) (ct : Nat → Option Addr) (L : Addr) (u1 : List Addr) (H1 : Hp) (g : Grd) (P : List D → Hs → Prop) (H : Hp) : Prop :=
  ∃ u h acc accV, Later u1 H1 u H ∧ HR X.K ct u h H ∧ L ∉ u ∧ H L = some (.lst accV) ∧ RVs X.K u H acc accV ∧ grdOk h g = true ∧ P acc h
/-- the target, the test, the item of a turn -/
theorem turn_run {α β : Type} {ga : D → Sg → M Sg} {gt : Sg → M Bool} {ge : Sg → M α} {Rl : α → Hp → List Addr → Hp → β → Prop} {te : L2.St → Hp → (β → Hp → Prop) → Prop} {own : List Nat} {σ3 : Sg} {σ : L2.St} {u : List Addr} {h : Hs} {H : Hp} {d : D} {x : V} (ind : ∀ a H0 H1 u H b, Rl a H0 u H b → Rl a H1 u H b)
    (ne : ∀ (u : List Addr) (σ3 : Sg) (h : Hs) (σ : L2.St) (H : Hp) (Q : β → Hp → Prop), RS X.K u H σ3 σ → HR X.K ct u h H → Pg X.K ct N0 Rl u H (ge σ3 h) Q → te σ H Q)
    (S : RS X.K u H σ3 σ) (R : HR X.K ct u h H) (r : RV X.K u H d x) {Q : Option β → Hp → Prop} (q : Pg X.K ct N0 (RO Rl) u H (turnC ga gt ge (wipeD σ3 own) d h) Q) :
    gX X ct own ga x (wipe σ own) H fun σ2 H2 => wipe σ2 own = wipe σ own ∧ tX X ct E0 RE gt σ2 H2 fun b H3 => if b = true then te σ2 H3 fun y H4 => Q (some y) H4 else Q none H3 := by
  have lw : Low Rl := fun a H0 H1 u H b _ r => ind a H1 H0 u H b r
  refine ⟨u, wipeD σ3 own, h, d, S.wipe own, R, r, (show Pg X.K ct N0 (RO Rl) u H (((ga d (wipeD σ3 own)).bind fun σ2 => (gt σ2).bind fun b => if b then (ge σ2).bind fun y => M.pure (some y) else M.pure none) h) Q from q).bind (low_O lw) fun σ4 h4 _ u4 H4 σ' l4 R4 r4 q4 => ?_⟩
  refine ⟨by rw [r4.2.wipe, wipe_idem], u4, σ4, h4, r4.1, R4, Pg.wish (q4.bind (low_O lw) fun b h5 _ u5 H5 b' l5 R5 rb q5 => ?_) fun _ _ _ _ _ _ z => z⟩
  cases rb
  cases b with
  | true =>
    rw [if_pos rfl]
    refine ne u5 σ4 h5 σ' H5 _ (r4.1.up l5) R5 ((show Pg X.K ct N0 (RO Rl) u5 H5 (((ge σ4).bind fun y => M.pure (some y)) h5) Q from q5).bind (low_O lw) fun y h6 _ u6 H6 v l6 R6 r6 q6 => ?_)
    exact q6 u6 H6 (some v) Later.refl R6 (ind _ _ _ _ _ _ r6)
  | false => exact q5 u5 H5 none Later.refl R5 trivial
theorem drop_at {ds : List D} {i : Nat} (h : i < ds.length) : ds.drop i = ds[i] :: ds.drop (i + 1) := List.drop_eq_getElem_cons h
/-- the reading of [e for t in it if c] -/
theorem lc_read {gi : Sg → M (List D × Grd)} {ga : D → Sg → M Sg} {gt : Sg → M Bool} {ge : Sg → M D} {own : List Nat} {σ : L2.St} {H : Hp} {Q : VK} (hgrd : ∀ σ h r h', gi σ h = .ok r h' → grdOk h' r.2 = true)
    (z : tX X ct E (RW X.K) (fun σ => (gi σ).bind fun r => (compI (turnC ga gt ge (wipeD σ own)) r.2 r.1 []).bind retN) σ H Q) :
    tLc (tX X ct E (RI X.K ct) gi) (gX X ct own ga) (tX X ct E0 RE gt) (tX X ct E0 (RD X.K) ge) own σ H Q := by
  obtain ⟨u, σ3, h, S, R, q⟩ := z
  refine ⟨u, σ3, h, S, R, q.bind low_W fun r h1 em u1 H1 J l1 R1 w q1 => ?_⟩
  intro D hD
  unfold M.bind at q1
  rcases compI_ok (turnC ga gt ge (wipeD σ3 own)) r.2 r.1 [] h1 with ⟨accF, hF, ec⟩ | ec
  · rw [ec] at q1
    have q1 : Pg X.K ct (fun c fs u h H => E c fs u h H σ) (RW X.K) u1 H1 (.ok (.new accF) hF) Q := q1
    refine ⟨fun i m H => m = r.1.length - i ∧ i ≤ r.1.length ∧ CI X ct D u1 H1 r.2 (fun acc h => compI (turnC ga gt ge (wipeD σ3 own)) r.2 (r.1.drop i) acc h = .ok accF hF) H,
      ⟨_, rfl, Nat.zero_le _, u1, h1, [], [], Later.new hD, R1.new hD, R1.notIn hD, upd_same, .nil, hgrd _ _ _ _ em, ec⟩, ?_⟩
    rintro i m H ⟨rfl, hi, u2, h2, acc, accV, l2, R2, nD, eD, ra, hg2, ec2⟩
    by_cases hlt : i < r.1.length
    · right
      obtain ⟨go, yl⟩ := w.go i r.1[i] u2 h2 H (List.getElem?_eq_getElem hlt) l2.wk R2 hg2
      rw [drop_at hlt] at ec2
      obtain ⟨o, h3, et, hg3, rest⟩ := compI_step ec2
      refine ⟨go, fun H' => CI X ct D u1 H1 r.2 (fun acc h => compI (turnC ga gt ge (wipeD σ3 own)) r.2 (r.1.drop (i + 1)) acc h = .ok accF hF) H', fun H' n => ⟨r.1.length - (i + 1), by omega, rfl, hlt, n⟩, fun x H' hy => ?_⟩
      obtain ⟨l3, R3, r3⟩ := yl x H' hy
      refine turn_run (X := X) (te := tX X ct E0 (RD X.K) ge) (Rl := RD X.K) (fun _ _ _ _ _ _ r => r) (fun u σ3 h σ H Q S R q => ⟨u, σ3, h, S, R, Pg.wish q fun _ _ _ _ _ _ z => z⟩) (((S.up l1).up l2).up l3) R3 r3
        (Q := fun ov H4 => match ov with
          | none => CI X ct D u1 H1 r.2 (fun acc h => compI (turnC ga gt ge (wipeD σ3 own)) r.2 (r.1.drop (i + 1)) acc h = .ok accF hF) H4
          | some y => ∃ acc, H4 D = some (.lst acc) ∧ acc.length < sizeLine ∧ CI X ct D u1 H1 r.2 (fun acc h => compI (turnC ga gt ge (wipeD σ3 own)) r.2 (r.1.drop (i + 1)) acc h = .ok accF hF) (upd H4 D (.lst (acc ++ [y])))) ?_
      rw [et]
      intro u4 H4 ov l4 R4 ro
      have l5 := l3.trans l4
      obtain ⟨n4, e4⟩ := l5.mine nD eD
      cases o with
      | none =>
        cases ov with
        | none => exact ⟨u4, h3, acc, accV, l2.trans l5, R4, n4, e4, ra.up l5, hg3, rest⟩
        | some y => exact ro.elim
      | some d =>
        cases ov with
        | none => exact ro.elim
        | some y =>
          have ro : RV X.K u4 H4 d y := ro
          refine ⟨accV, e4, by rw [← ra.length, ← lim_eq]; exact rest.1, u4, h3, acc ++ [d], accV ++ [y], (l2.trans l5).own hD, R4.own n4 e4 (fun _ z => nomatch z) (fun _ _ z => nomatch z), n4, upd_same, ?_, hg3, rest.2⟩
          exact ((ra.up l5).append (.cons ro .nil)).upw (Wk.own e4 (fun _ z => nomatch z) (fun _ _ z => nomatch z))
    · left
      have e : i = r.1.length := by omega
      subst e
      rw [List.drop_length] at ec2
      cases ec2
      exact ⟨w.stop _ u2 hF H (Nat.le_refl _) l2.wk R2 hg2, q1 u2 H (.ref D) l2 R2 ⟨D, accV, rfl, nD, hD, eD, ra⟩⟩
  · rw [ec] at q1
    exact q1.elim
theorem ownN_ix (N : List Str) (own : List Nat) : (ownN N own).map (·.2) = own := by
  unfold ownN
  rw [List.map_map]
  exact List.map_id' own
variable (C : Cok T nm ct k X N sc fb E)
include C
omit C in
theorem fold_of {iter : Expr} {env : Env} (h : notSet iter = true) : ∀ x, foldedSetIterable iter env x = pure x := by
  intro x
  cases iter <;> first | rfl | cases h
/-- what a piece of a comprehension must do in the block -/
abbrev Blk (X : Cx) (scope : Scope) (P : Cx → Prop) : Prop := ∀ (s : Shared) (H : Hp) (C : Addr) (cl : List (Str × Addr)) (fp : List Addr), P (X.blk s H scope (compEnvC scope cl C X.env) fp)
theorem e_lc {elt tg iter : Expr} {ifs : List Expr} {scope : Scope} {own : List Nat} {pos : Pos} {gi : Sg → M (List D × Grd)} {ga : D → Sg → M Sg} {gt : Sg → M Bool} {ge : Sg → M Raw} (hb : blkC N sc scope (ownN N own) = true) (hs : notSet iter = true) (hgrd : ∀ σ h r h', gi σ h = .ok r h' → grdOk h' r.2 = true)
    (hi : PIs X ct E tg iter gi) (hg : Blk X scope fun Y => PGx Y ct own tg ga) (ht : Blk X scope fun Y => L2.PTs Y ifs (tX Y ct E0 RE gt)) (he : Blk X scope fun Y => PRw Y ct E0 elt ge) :
    PRw X ct E (.ListComp elt [⟨tg, iter, ifs, 0⟩] scope pos) fun σ => (gi σ).bind fun r => (compI (turnC ga gt (fun σ => V3 (ge σ)) (wipeD σ own)) r.2 r.1 []).bind retN := by
  refine PE.imp (pe_lc (g := gX X ct own ga) (tt := tX X ct E0 RE gt) (te := tX X ct E0 (RD X.K) fun σ => V3 (ge σ)) C.calm (by rw [C.hN]; exact C.nd) hi (blkOk_by (by rw [C.hN, C.hs]; exact hb)) hg ht (fun s H D cl fp => PRw.val (he s H D cl fp)) (fold_of hs)) fun σ H Q z => ?_
  rw [ownN_ix]
  exact lc_read hgrd z
/-- name = [..] in one go -/
theorem s_setLc {elt tg iter : Expr} {ifs : List Expr} {scope : Scope} {own : List Nat} {pos spos py : Pos} {i : Nat} {y : Str} {gi : Sg → M (List D × Grd)} {ga : D → Sg → M Sg} {gt : Sg → M Bool} {ge : Sg → M Raw} (hb : blkC N sc scope (ownN N own) = true) (hs : notSet iter = true) (hgrd : ∀ σ h r h', gi σ h = .ok r h' → grdOk h' r.2 = true)
    (hy : N[i]? = some y) (hyl : sc.names.lookup y = some .local) (hsw : swapsWith (.ListComp elt [⟨tg, iter, ifs, 0⟩] scope pos) (some (.Name y py)) spos.line X.env = pure true)
    (hi : PIs X ct E tg iter gi) (hg : Blk X scope fun Y => PGx Y ct own tg ga) (ht : Blk X scope fun Y => L2.PTs Y ifs (tX Y ct E0 RE gt)) (he : Blk X scope fun Y => PRw Y ct E0 elt ge) :
    PS X (.Assign [.Name y py] (.ListComp elt [⟨tg, iter, ifs, 0⟩] scope pos) spos) (tAsg (tX X ct E (RW X.K) fun σ => (gi σ).bind fun r => (compI (turnC ga gt (fun σ => V3 (ge σ)) (wipeD σ own)) r.2 r.1 []).bind retN) (gName i)) := by
  refine PS.imp (ps_setLc (g := gX X ct own ga) (tt := tX X ct E0 RE gt) (te := tX X ct E0 (RD X.K) fun σ => V3 (ge σ)) C.calm (by rw [C.hN]; exact C.nd) (by rw [C.hN]; exact hy) (by rw [C.hs]; exact hyl) hsw hi (blkOk_by (by rw [C.hN, C.hs]; exact hb)) hg ht (fun s H D cl fp => PRw.val (he s H D cl fp)) (fold_of hs)) fun D σ H z => ?_
  rw [ownN_ix]
  exact lc_read hgrd z
/-! ### {k: v for ..} -/
omit C in
/-- two values in a row -/
def R2D (K : Fr) : D × D → Hp → List Addr → Hp → V × V → Prop := fun p _ u H q => RV K u H p.1 q.1 ∧ RV K u H p.2 q.2
omit C in
theorem dc_read {gi : Sg → M (List D × Grd)} {ga : D → Sg → M Sg} {gt : Sg → M Bool} {gk gv : Sg → M D} {own : List Nat} {σ : L2.St} {H : Hp} {Q : VK} (hgrd : ∀ σ h r h', gi σ h = .ok r h' → grdOk h' r.2 = true)
    (z : tX X ct E (RW X.K) (fun σ => (gi σ).bind fun r => (compK (turnC ga gt (fun σ => (gk σ).bind fun a => (gv σ).bind fun b => M.pure (a, b)) (wipeD σ own)) r.2 r.1 []).bind fun kvs => alloc (.dct kvs)) σ H Q) :
    tDc (tX X ct E (RI X.K ct) gi) (gX X ct own ga) (tX X ct E0 RE gt) (tX X ct E0 (RD X.K) gk) (tX X ct E0 (RD X.K) gv) own σ H Q := by
  obtain ⟨u, σ3, h, S, R, q⟩ := z
  refine ⟨u, σ3, h, S, R, q.bind low_W fun r h1 em u1 H1 J l1 R1 w q1 => ?_⟩
  intro L hD
  generalize hturn : turnC ga gt (fun σ => (gk σ).bind fun a => (gv σ).bind fun b => M.pure (a, b)) (wipeD σ3 own) = turn at q1
  unfold M.bind at q1
  rcases compK_ok turn r.2 r.1 [] h1 with ⟨accF, hF, ec⟩ | ec
  · rw [ec] at q1
    have q1 : Pg X.K ct (fun c fs u h H => E c fs u h H σ) (RW X.K) u1 H1 (.ok (.val (.ref hF.length)) (hF ++ [.dct accF])) Q := q1
    refine ⟨fun i m H => m = r.1.length - i ∧ i ≤ r.1.length ∧ ∃ u h acc accV, Later u1 H1 u H ∧ HR X.K ct u h H ∧ L ∉ u ∧ H L = some (.dK accV) ∧ RKs X.K u H acc accV ∧ grdOk h r.2 = true ∧ compK turn r.2 (r.1.drop i) acc h = .ok accF hF,
      ⟨_, rfl, Nat.zero_le _, u1, h1, [], [], Later.new hD, R1.new hD, R1.notIn hD, upd_same, .nil, hgrd _ _ _ _ em, ec⟩, ?_⟩
    rintro i m H ⟨rfl, hi, u2, h2, acc, accV, l2, R2, nD, eD, ra, hg2, ec2⟩
    by_cases hlt : i < r.1.length
    · right
      obtain ⟨go, yl⟩ := w.go i r.1[i] u2 h2 H (List.getElem?_eq_getElem hlt) l2.wk R2 hg2
      rw [drop_at hlt] at ec2
      obtain ⟨o, h3, et, hg3, rest⟩ := compK_step ec2
      refine ⟨go, fun H' => ∃ u h acc accV, Later u1 H1 u H' ∧ HR X.K ct u h H' ∧ L ∉ u ∧ H' L = some (.dK accV) ∧ RKs X.K u H' acc accV ∧ grdOk h r.2 = true ∧ compK turn r.2 (r.1.drop (i + 1)) acc h = .ok accF hF, fun H' n => ⟨r.1.length - (i + 1), by omega, rfl, hlt, n⟩, fun x H' hy => ?_⟩
      obtain ⟨l3, R3, r3⟩ := yl x H' hy
      refine turn_run (X := X) (te := fun σ H Q => tX X ct E0 (RD X.K) gk σ H fun y H4 => tX X ct E0 (RD X.K) gv σ H4 fun z H5 => Q (y, z) H5) (ge := fun σ => (gk σ).bind fun a => (gv σ).bind fun b => M.pure (a, b)) (Rl := R2D X.K) (fun _ _ _ _ _ _ r => r) (fun u σ3 h σ H Q S R q => ?_) (((S.up l1).up l2).up l3) R3 r3
        (Q := fun ov H4 => match ov with
          | none => ∃ u h acc accV, Later u1 H1 u H4 ∧ HR X.K ct u h H4 ∧ L ∉ u ∧ H4 L = some (.dK accV) ∧ RKs X.K u H4 acc accV ∧ grdOk h r.2 = true ∧ compK turn r.2 (r.1.drop (i + 1)) acc h = .ok accF hF
          | some p => ∃ kvs k, p.1 = kV k ∧ H4 L = some (.dK kvs) ∧ kvs.length < sizeLine ∧ ∃ u h acc accV, Later u1 H1 u (upd H4 L (.dK (putK kvs k p.2))) ∧ HR X.K ct u h (upd H4 L (.dK (putK kvs k p.2))) ∧ L ∉ u ∧ (upd H4 L (.dK (putK kvs k p.2))) L = some (.dK accV) ∧ RKs X.K u (upd H4 L (.dK (putK kvs k p.2))) acc accV ∧ grdOk h r.2 = true ∧ compK turn r.2 (r.1.drop (i + 1)) acc h = .ok accF hF) ?_
      · have lw : Low (R2D X.K) := fun _ _ _ _ _ _ _ r => r
        refine ⟨u, σ3, h, S, R, Pg.wish (q.bind lw fun a h1 _ u1 H1 y l1 R1 r1 q1 => ?_) fun _ _ _ _ _ _ z => z⟩
        refine ⟨u1, σ3, h1, S.up l1, R1, Pg.wish (q1.bind lw fun b h2 _ u2 H2 z l2 R2 r2 q2 => ?_) fun _ _ _ _ _ _ z => z⟩
        exact q2 u2 H2 (y, z) Later.refl R2 ⟨RV.up r1 l2, r2⟩
      · rw [hturn, et]
        intro u4 H4 ov l4 R4 ro
        have l5 := l3.trans l4
        obtain ⟨n4, e4⟩ := l5.mine nD eD
        cases o with
        | none =>
          cases ov with
          | none => exact ⟨u4, h3, acc, accV, l2.trans l5, R4, n4, e4, ra.up l5, hg3, rest⟩
          | some y => exact ro.elim
        | some d =>
          obtain ⟨a, d⟩ := d
          obtain ⟨kk, ek, hz, rest⟩ := rest
          cases ov with
          | none => exact ro.elim
          | some y =>
            obtain ⟨y, z⟩ := y
            have ro : R2D X.K (a, d) H' u4 H4 (y, z) := ro
            refine ⟨accV, kk, keyD_of ro.1 ek, e4, by rw [← ra.length, ← lim_eq]; exact hz, u4, h3, putKD acc kk d, putK accV kk z, (l2.trans l5).own hD, R4.own n4 e4 (fun _ z => nomatch z) (fun _ _ z => nomatch z), n4, upd_same, ?_, hg3, rest⟩
            exact ((ra.up l5).put kk ro.2).upw (Wk.own e4 (fun _ z => nomatch z) (fun _ _ z => nomatch z))
    · left
      have e : i = r.1.length := by omega
      subst e
      rw [List.drop_length] at ec2
      cases ec2
      refine ⟨w.stop _ u2 hF H (Nat.le_refl _) l2.wk R2 hg2, ?_⟩
      exact q1 (u2 ++ [L]) H (.ref L) (l2.nameNew hD) (R2.name nD ⟨accV, eD, ra.upw Wk.more⟩) (.ref (by rw [← R2.len, List.getElem?_append_right (Nat.le_refl _), Nat.sub_self]; rfl))
  · rw [ec] at q1
    exact q1.elim
theorem e_dc {ke ve tg iter : Expr} {ifs : List Expr} {scope : Scope} {own : List Nat} {pos : Pos} {gi : Sg → M (List D × Grd)} {ga : D → Sg → M Sg} {gt : Sg → M Bool} {gk gv : Sg → M Raw} (hb : blkC N sc scope (ownN N own) = true) (hs : notSet iter = true) (hgrd : ∀ σ h r h', gi σ h = .ok r h' → grdOk h' r.2 = true)
    (hi : PIs X ct E tg iter gi) (hg : Blk X scope fun Y => PGx Y ct own tg ga) (ht : Blk X scope fun Y => L2.PTs Y ifs (tX Y ct E0 RE gt)) (hk : Blk X scope fun Y => PRw Y ct E0 ke gk) (hv : Blk X scope fun Y => PRw Y ct E0 ve gv) :
    PRw X ct E (.DictComp ke ve [⟨tg, iter, ifs, 0⟩] scope pos) fun σ => (gi σ).bind fun r => (compK (turnC ga gt (fun σ => (V3 (gk σ)).bind fun a => (V3 (gv σ)).bind fun b => M.pure (a, b)) (wipeD σ own)) r.2 r.1 []).bind fun kvs => alloc (.dct kvs) := by
  refine PE.imp (pe_dc (g := gX X ct own ga) (tt := tX X ct E0 RE gt) (tk := tX X ct E0 (RD X.K) fun σ => V3 (gk σ)) (tv := tX X ct E0 (RD X.K) fun σ => V3 (gv σ)) C.calm (by rw [C.hN]; exact C.nd) hi (blkOk_by (by rw [C.hN, C.hs]; exact hb)) hg ht (fun s H D cl fp => PRw.val (hk s H D cl fp)) (fun s H D cl fp => PRw.val (hv s H D cl fp)) (fold_of hs)) fun σ H Q z => ?_
  rw [ownN_ix]
  exact dc_read hgrd z
end
end PX

/-! PXq: comprehensions of two clauses; the induction over expressions. -/
namespace PX
open PySem PySem.Spec PyProof.Rows L2
/-- a turn of the outer clause -/
def turn2 (ga : D → Sg → M Sg) (gt : Sg → M Bool) (gi2 : Sg → M (List D × Grd)) (inner : Sg → D → M (Option D)) (σw : Sg) : D → List D → M (List D) := fun x acc => (ga x σw).bind fun σ2 => (gt σ2).bind fun b => if b then (gi2 σ2).bind fun r2 => compI (inner σ2) r2.2 r2.1 acc else M.pure acc
section
variable {T : Prog} {nm : Nm} {ct : Nat → Option Addr} {k : Nat} {X : Cx} {N : List Str} {sc : Scope} {fb : Str → Bool} {E : Et}
theorem lc2_read {gi gi2 : Sg → M (List D × Grd)} {ga ga2 : D → Sg → M Sg} {gt gt2 : Sg → M Bool} {ge : Sg → M D} {own own2 : List Nat} {σ : L2.St} {H : Hp} {Q : VK} (hgrd : ∀ σ h r h', gi σ h = .ok r h' → grdOk h' r.2 = true) (hgrd2 : ∀ σ h r h', gi2 σ h = .ok r h' → grdOk h' r.2 = true)
    (z : tX X ct E (RW X.K) (fun σ => (gi σ).bind fun r => (compsI (turn2 ga gt gi2 (fun σ2 => turnC ga2 gt2 ge (wipeD σ2 own2)) (wipeD σ own)) r.2 r.1 []).bind retN) σ H Q) :
    tLc2 (tX X ct E (RI X.K ct) gi) (gX X ct own ga) (tX X ct E0 RE gt) (tX X ct E0 (RI X.K ct) gi2) (gX X ct own2 ga2) (tX X ct E0 RE gt2) (tX X ct E0 (RD X.K) ge) own own2 σ H Q := by
  obtain ⟨u, σ3, h, S, R, q⟩ := z
  refine ⟨u, σ3, h, S, R, q.bind low_W fun r h1 em u1 H1 J l1 R1 w q1 => ?_⟩
  intro L hD
  generalize hturn : turn2 ga gt gi2 (fun σ2 => turnC ga2 gt2 ge (wipeD σ2 own2)) (wipeD σ3 own) = turn at q1
  unfold M.bind at q1
  rcases compsI_ok turn r.2 r.1 [] h1 with ⟨accF, hF, ec⟩ | ec
  · rw [ec] at q1
    have q1 : Pg X.K ct (fun c fs u h H => E c fs u h H σ) (RW X.K) u1 H1 (.ok (.new accF) hF) Q := q1
    refine ⟨fun i m H => m = r.1.length - i ∧ i ≤ r.1.length ∧ CI X ct L u1 H1 r.2 (fun acc h => compsI turn r.2 (r.1.drop i) acc h = .ok accF hF) H,
      ⟨_, rfl, Nat.zero_le _, u1, h1, [], [], Later.new hD, R1.new hD, R1.notIn hD, upd_same, .nil, hgrd _ _ _ _ em, ec⟩, ?_⟩
    rintro i m H ⟨rfl, hi, u2, h2, acc, accV, l2, R2, nD, eD, ra, hg2, ec2⟩
    by_cases hlt : i < r.1.length
    · right
      obtain ⟨go, yl⟩ := w.go i r.1[i] u2 h2 H (List.getElem?_eq_getElem hlt) l2.wk R2 hg2
      rw [drop_at hlt] at ec2
      obtain ⟨acc1, h3, et, hg3, rest⟩ := compsI_step ec2
      refine ⟨go, fun H' => CI X ct L u1 H1 r.2 (fun acc h => compsI turn r.2 (r.1.drop (i + 1)) acc h = .ok accF hF) H', fun H' n => ⟨r.1.length - (i + 1), by omega, rfl, hlt, n⟩, fun x H' hy => ?_⟩
      obtain ⟨l3, R3, r3⟩ := yl x H' hy
      rw [← hturn] at et
      unfold turn2 at et
      obtain ⟨σ4, h4, et1, et⟩ := M.bind_ok et
      obtain ⟨b, h5, et2, et⟩ := M.bind_ok et
      refine ⟨u2, wipeD σ3 own, h2, r.1[i], (((S.up l1).up l2).up l3).wipe own, R3, r3, ?_⟩
      rw [et1]
      intro u4 H4 σ' l4 R4 r4
      refine ⟨by rw [r4.2.wipe, wipe_idem], u4, σ4, h4, r4.1, R4, ?_⟩
      rw [et2]
      intro u5 H5 b' l5 R5 rb
      cases rb
      have l35 := (l3.trans l4).trans l5
      obtain ⟨n5, e5⟩ := l35.mine nD eD
      cases b with
      | false =>
        simp only [Bool.false_eq_true, if_false] at et ⊢
        cases et
        exact ⟨u5, _, acc, accV, l2.trans l35, R5, n5, e5, ra.up l35, hg3, rest⟩
      | true =>
        simp only [if_true] at et ⊢
        obtain ⟨r2, h6, et3, et⟩ := M.bind_ok et
        refine ⟨u5, σ4, h5, r4.1.up l5, R5, ?_⟩
        rw [et3]
        intro u6 H6 J1 l6 R6 w1
        have w1 : Wlk X.K ct r2.1 r2.2 u6 H6 J1 := w1
        have l36 := l35.trans l6
        obtain ⟨n6, e6⟩ := l36.mine nD eD
        -- the inner walk: based at H6, the list L apart
        refine ⟨fun j m H => m = r2.1.length - j ∧ j ≤ r2.1.length ∧ ∃ u h acc accV, Wk u6 H6 u H ∧ RS X.K u H σ4 σ' ∧ Later u1 H1 u H ∧ HR X.K ct u h H ∧ L ∉ u ∧ H L = some (.lst accV) ∧ RVs X.K u H acc accV ∧ grdOk h r2.2 = true ∧ compI (turnC ga2 gt2 ge (wipeD σ4 own2)) r2.2 (r2.1.drop j) acc h = .ok acc1 h3,
          ⟨_, rfl, Nat.zero_le _, u6, h6, acc, accV, Later.refl.wk, (r4.1.up l5).up l6, l2.trans l36, R6, n6, e6, ra.up l36, hgrd2 _ _ _ _ et3, et⟩, ?_⟩
        rintro j m H7 ⟨rfl, hj, u7, h7, acc7, accV7, k7, S7, l7, R7, n7, e7, ra7, hg7, ec7⟩
        by_cases hlt2 : j < r2.1.length
        · right
          obtain ⟨go1, yl1⟩ := w1.go j r2.1[j] u7 h7 H7 (List.getElem?_eq_getElem hlt2) k7 R7 hg7
          rw [drop_at hlt2] at ec7
          obtain ⟨o, h8, et8, hg8, rest8⟩ := compI_step ec7
          refine ⟨go1, fun H => ∃ u h acc accV, Wk u6 H6 u H ∧ RS X.K u H σ4 σ' ∧ Later u1 H1 u H ∧ HR X.K ct u h H ∧ L ∉ u ∧ H L = some (.lst accV) ∧ RVs X.K u H acc accV ∧ grdOk h r2.2 = true ∧ compI (turnC ga2 gt2 ge (wipeD σ4 own2)) r2.2 (r2.1.drop (j + 1)) acc h = .ok acc1 h3,
            fun H' n => ⟨r2.1.length - (j + 1), by omega, rfl, hlt2, n⟩, fun x8 H8 hy8 => ?_⟩
          obtain ⟨l8, R8, r8⟩ := yl1 x8 H8 hy8
          refine turn_run (X := X) (te := tX X ct E0 (RD X.K) ge) (Rl := RD X.K) (fun _ _ _ _ _ _ r => r) (fun u σ3 h σ H Q S R q => ⟨u, σ3, h, S, R, Pg.wish q fun _ _ _ _ _ _ z => z⟩) (S7.up l8) R8 r8
            (Q := fun ov H => match ov with
              | none => ∃ u h acc accV, Wk u6 H6 u H ∧ RS X.K u H σ4 σ' ∧ Later u1 H1 u H ∧ HR X.K ct u h H ∧ L ∉ u ∧ H L = some (.lst accV) ∧ RVs X.K u H acc accV ∧ grdOk h r2.2 = true ∧ compI (turnC ga2 gt2 ge (wipeD σ4 own2)) r2.2 (r2.1.drop (j + 1)) acc h = .ok acc1 h3
              | some y => ∃ acc0, H L = some (.lst acc0) ∧ acc0.length < sizeLine ∧ ∃ u h acc accV, Wk u6 H6 u (upd H L (.lst (acc0 ++ [y]))) ∧ RS X.K u (upd H L (.lst (acc0 ++ [y]))) σ4 σ' ∧ Later u1 H1 u (upd H L (.lst (acc0 ++ [y]))) ∧ HR X.K ct u h (upd H L (.lst (acc0 ++ [y]))) ∧ L ∉ u ∧ (upd H L (.lst (acc0 ++ [y]))) L = some (.lst accV) ∧
                  RVs X.K u (upd H L (.lst (acc0 ++ [y]))) acc accV ∧ grdOk h r2.2 = true ∧ compI (turnC ga2 gt2 ge (wipeD σ4 own2)) r2.2 (r2.1.drop (j + 1)) acc h = .ok acc1 h3) ?_
          rw [et8]
          intro u9 H9 ov l9 R9 ro
          have l89 := l8.trans l9
          obtain ⟨n9, e9⟩ := l89.mine n7 e7
          have kt : Wk u6 H6 u9 H9 := ⟨fun n a h => l89.sub (k7.sub n a h), fun a vs h => l89.tup a vs (k7.tup a vs h), fun a o x h => l89.frz a o x (k7.frz a o x h)⟩
          cases o with
          | none =>
            cases ov with
            | none => exact ⟨u9, h8, acc7, accV7, kt, S7.up l89, l7.trans l89, R9, n9, e9, ra7.up l89, hg8, rest8⟩
            | some y => exact ro.elim
          | some d =>
            cases ov with
            | none => exact ro.elim
            | some y =>
              have ro : RV X.K u9 H9 d y := ro
              have wo : Wk u9 H9 u9 (upd H9 L (.lst (accV7 ++ [y]))) := Wk.own e9 (fun _ z => nomatch z) (fun _ _ z => nomatch z)
              refine ⟨accV7, e9, by rw [← ra7.length, ← lim_eq]; exact rest8.1, u9, h8, acc7 ++ [d], accV7 ++ [y], ⟨fun n a h => wo.sub n a (kt.sub n a h), fun a vs h => wo.tup a vs (kt.tup a vs h), fun a o x h => wo.frz a o x (kt.frz a o x h)⟩,
                ⟨(S7.up l89).1, fun i d e => let ⟨v, h1, h2⟩ := (S7.up l89).2 i d e; ⟨v, h1, h2.upw wo⟩⟩, (l7.trans l89).own hD, R9.own n9 e9 (fun _ z => nomatch z) (fun _ _ z => nomatch z), n9, upd_same, ?_, hg8, rest8.2⟩
              exact ((ra7.up l89).append (.cons ro .nil)).upw wo
        · left
          have e : j = r2.1.length := by omega
          subst e
          rw [List.drop_length] at ec7
          cases ec7
          exact ⟨w1.stop _ u7 _ H7 (Nat.le_refl _) k7 R7 hg7, u7, _, _, accV7, l7, R7, n7, e7, ra7, hg3, rest⟩
    · left
      have e : i = r.1.length := by omega
      subst e
      rw [List.drop_length] at ec2
      cases ec2
      exact ⟨w.stop _ u2 hF H (Nat.le_refl _) l2.wk R2 hg2, q1 u2 H (.ref L) l2 R2 ⟨L, accV, rfl, nD, hD, eD, ra⟩⟩
  · rw [ec] at q1
    exact q1.elim
variable (C : Cok T nm ct k X N sc fb E)
include C
theorem e_lc2 {elt tg iter tg2 iter2 : Expr} {ifs ifs2 : List Expr} {scope : Scope} {own own2 : List Nat} {pos : Pos} {gi gi2 : Sg → M (List D × Grd)} {ga ga2 : D → Sg → M Sg} {gt gt2 : Sg → M Bool} {ge : Sg → M Raw} (hb : blkC N sc scope (ownN N own) = true) (ho : ∀ i ∈ own2, i ∈ own) (hs : notSet iter = true) (hs2 : notSet iter2 = true)
    (hgrd : ∀ σ h r h', gi σ h = .ok r h' → grdOk h' r.2 = true) (hgrd2 : ∀ σ h r h', gi2 σ h = .ok r h' → grdOk h' r.2 = true)
    (hi : PIs X ct E tg iter gi) (hg : Blk X scope fun Y => PGx Y ct own tg ga) (ht : Blk X scope fun Y => L2.PTs Y ifs (tX Y ct E0 RE gt)) (hi2 : Blk X scope fun Y => PIs Y ct E0 tg2 iter2 gi2) (hg2 : Blk X scope fun Y => PGx Y ct own2 tg2 ga2) (ht2 : Blk X scope fun Y => L2.PTs Y ifs2 (tX Y ct E0 RE gt2))
    (he : Blk X scope fun Y => PRw Y ct E0 elt ge) :
    PRw X ct E (.ListComp elt [⟨tg, iter, ifs, 0⟩, ⟨tg2, iter2, ifs2, 0⟩] scope pos) fun σ => (gi σ).bind fun r => (compsI (turn2 ga gt gi2 (fun σ2 => turnC ga2 gt2 (fun σ => V3 (ge σ)) (wipeD σ2 own2)) (wipeD σ own)) r.2 r.1 []).bind retN := by
  refine PE.imp (pe_lc2 (vs1 := own2) (g := gX X ct own ga) (tt := tX X ct E0 RE gt) (g1 := gX X ct own2 ga2) (wi1 := tX X ct E0 (RI X.K ct) gi2) (tt1 := tX X ct E0 RE gt2) (te := tX X ct E0 (RD X.K) fun σ => V3 (ge σ)) C.calm (by rw [C.hN]; exact C.nd) hi (blkOk_by (by rw [C.hN, C.hs]; exact hb))
    (by rw [ownN_ix]; exact ho) hg ht hi2 hg2 ht2 (fun s H D cl fp => PRw.val (he s H D cl fp)) (fold_of hs) (fun env => fold_of hs2)) fun σ H Q z => ?_
  rw [ownN_ix]
  exact lc2_read hgrd hgrd2 z
theorem s_setLc2 {elt tg iter tg2 iter2 : Expr} {ifs ifs2 : List Expr} {scope : Scope} {own own2 : List Nat} {pos spos py : Pos} {i : Nat} {y : Str} {gi gi2 : Sg → M (List D × Grd)} {ga ga2 : D → Sg → M Sg} {gt gt2 : Sg → M Bool} {ge : Sg → M Raw} (hb : blkC N sc scope (ownN N own) = true) (ho : ∀ i ∈ own2, i ∈ own) (hs : notSet iter = true) (hs2 : notSet iter2 = true)
    (hgrd : ∀ σ h r h', gi σ h = .ok r h' → grdOk h' r.2 = true) (hgrd2 : ∀ σ h r h', gi2 σ h = .ok r h' → grdOk h' r.2 = true)
    (hy : N[i]? = some y) (hyl : sc.names.lookup y = some .local) (hsw : swapsWith (.ListComp elt [⟨tg, iter, ifs, 0⟩, ⟨tg2, iter2, ifs2, 0⟩] scope pos) (some (.Name y py)) spos.line X.env = pure true)
    (hi : PIs X ct E tg iter gi) (hg : Blk X scope fun Y => PGx Y ct own tg ga) (ht : Blk X scope fun Y => L2.PTs Y ifs (tX Y ct E0 RE gt)) (hi2 : Blk X scope fun Y => PIs Y ct E0 tg2 iter2 gi2) (hg2 : Blk X scope fun Y => PGx Y ct own2 tg2 ga2) (ht2 : Blk X scope fun Y => L2.PTs Y ifs2 (tX Y ct E0 RE gt2))
    (he : Blk X scope fun Y => PRw Y ct E0 elt ge) :
    PS X (.Assign [.Name y py] (.ListComp elt [⟨tg, iter, ifs, 0⟩, ⟨tg2, iter2, ifs2, 0⟩] scope pos) spos) (tAsg (tX X ct E (RW X.K) fun σ => (gi σ).bind fun r => (compsI (turn2 ga gt gi2 (fun σ2 => turnC ga2 gt2 (fun σ => V3 (ge σ)) (wipeD σ2 own2)) (wipeD σ own)) r.2 r.1 []).bind retN) (gName i)) := by
  refine PS.imp (ps_setLc2 (vs1 := own2) (g := gX X ct own ga) (tt := tX X ct E0 RE gt) (g1 := gX X ct own2 ga2) (wi1 := tX X ct E0 (RI X.K ct) gi2) (tt1 := tX X ct E0 RE gt2) (te := tX X ct E0 (RD X.K) fun σ => V3 (ge σ)) C.calm (by rw [C.hN]; exact C.nd) (by rw [C.hN]; exact hy) (by rw [C.hs]; exact hyl) hsw hi (blkOk_by (by rw [C.hN, C.hs]; exact hb))
    (by rw [ownN_ix]; exact ho) hg ht hi2 hg2 ht2 (fun s H D cl fp => PRw.val (he s H D cl fp)) (fold_of hs) (fun env => fold_of hs2)) fun D σ H z => ?_
  rw [ownN_ix]
  exact lc2_read hgrd hgrd2 z
end
end PX

/-! PXr: the induction over expressions. -/
namespace PX
open PySem PySem.Spec PyProof.Rows L2
theorem evi_grd (P : Par) : ∀ (i : PX.It) (σ : Sg) (h : Hs) (r : List D × Grd) (h' : Hs), evi P i σ h = .ok r h' → grdOk h' r.2 = true
  | .vals a, σ, h, r, h', e => by
    simp only [evi] at e
    obtain ⟨x, h1, _, e⟩ := M.bind_ok e
    unfold walkM at e
    cases ew : walkG h1 x with
    | none => rw [ew] at e; cases e
    | some r => rw [ew] at e; cases e; exact walk_grd ew
  | .valT x ds, σ, h, r, h', e => by
    simp only [evi] at e
    cases e
    rfl
  | .rng1 a, σ, h, r, h', e => by
    simp only [evi] at e
    obtain ⟨x, h1, _, e⟩ := M.bind_ok e
    obtain ⟨i, h2, _, e⟩ := M.bind_ok e
    split at e
    · cases e; rfl
    · cases e
  | .rng2 a b, σ, h, r, h', e => by
    simp only [evi] at e
    obtain ⟨x, h1, _, e⟩ := M.bind_ok e
    obtain ⟨y, h2, _, e⟩ := M.bind_ok e
    obtain ⟨i, h3, _, e⟩ := M.bind_ok e
    obtain ⟨j, h4, _, e⟩ := M.bind_ok e
    split at e
    · cases e; rfl
    · cases e
  | .zip a b, σ, h, r, h', e => by
    simp only [evi] at e
    obtain ⟨x, h1, _, e⟩ := M.bind_ok e
    obtain ⟨y, h2, _, e⟩ := M.bind_ok e
    obtain ⟨i, h3, e1, e⟩ := M.bind_ok e
    obtain ⟨j, h4, e2, e⟩ := M.bind_ok e
    have g1 : grdOk h3 i.2 = true ∧ h3 = h2 := by
      unfold seqM at e1
      cases es : seqG h2 x with
      | none => rw [es] at e1; cases e1
      | some r => rw [es] at e1; cases e1; exact ⟨seq_grd es, rfl⟩
    have g2 : grdOk h4 j.2 = true ∧ h4 = h3 := by
      unfold seqM at e2
      cases es : seqG h3 y with
      | none => rw [es] at e2; cases e2
      | some r => rw [es] at e2; cases e2; exact ⟨seq_grd es, rfl⟩
    split at e
    · cases e
      exact grd_app.mpr ⟨by rw [g2.2]; exact g1.1, g2.1⟩
    · cases e
  | .enum a, σ, h, r, h', e => by
    simp only [evi] at e
    obtain ⟨x, h1, _, e⟩ := M.bind_ok e
    obtain ⟨i, h3, e1, e⟩ := M.bind_ok e
    unfold seqM at e1
    cases es : seqG h1 x with
    | none => rw [es] at e1; cases e1
    | some r =>
      rw [es] at e1
      cases e1
      split at e
      · cases e
      · cases e; exact seq_grd (r := i) es
  | .rev a, σ, h, r, h', e => by
    simp only [evi] at e
    obtain ⟨x, h1, _, e⟩ := M.bind_ok e
    obtain ⟨i, h3, e1, e⟩ := M.bind_ok e
    unfold seqM at e1
    cases es : seqG h1 x with
    | none => rw [es] at e1; cases e1
    | some r => rw [es] at e1; cases e1; cases e; exact seq_grd (r := i) es
section
variable {T : Prog} {nm : Nm} {ct : Nat → Option Addr} {k : Nat}
theorem Cok.blk {X : Cx} {N : List Str} {sc : Scope} {fb : Str → Bool} {E : Et} (C : Cok T nm ct k X N sc fb E) (scope : Scope) : Blk X scope fun Y => Cok T nm ct k Y N (relS scope sc) (fnB scope) E0 :=
  fun s H D cl fp => ⟨C.wd, C.hN, by show relS scope X.env.scope = relS scope sc; rw [C.hs], fun x h => h, C.calm, C.room, C.nd, takes_none⟩
/-- an expression's word: as a value, as a test -/
structure GE (X : Cx) (ct : Nat → Option Addr) (E : Et) (t : Bool) (e : Expr) (g : Sg → M Raw) : Prop where
  val : t = false → PRw X ct E e g
  test : t = true → PTs X ct E e (fun σ => (V3 (g σ)).bind truM)
  whole : t = true → ∀ op l p, e = .BoolOp op l p → PWs X ct E e (fun σ => (V3 (g σ)).bind truM)
theorem GE.plain {X : Cx} {E : Et} {t : Bool} {e : Expr} {g : Sg → M Raw} (h : PRw X ct E e g) (hp : plainT e = true) : GE X ct E t e g :=
  ⟨fun _ => h, fun _ => t_plain h hp, fun _ op l p z => by subst z; cases hp⟩
theorem GE.cmp {X : Cx} {E : Et} {t : Bool} {l : Expr} {ops : List CmpOp} {rs : List Expr} {p : Pos} {g : Sg → M Raw} (h : PRw X ct E (.Compare l ops rs p) g) (h2 : PTs X ct E (.Compare l ops rs p) (fun σ => (V3 (g σ)).bind truM)) : GE X ct E t (.Compare l ops rs p) g :=
  ⟨fun _ => h, fun _ => h2, fun _ op l p z => nomatch z⟩
theorem L2PTs.imp {X : Cx} {ifs : List Expr} {t t' : TT} (h : L2.PTs X ifs t) (k : ∀ σ H Q, t' σ H Q → t σ H Q) : L2.PTs X ifs t' := ⟨fun pins s σ H Q I z => h.run pins s σ H Q I (k σ H Q z)⟩
/-- arguments: what they do, none of them with a star, none at all -/
structure GA (X : Cx) (ct : Nat → Option Addr) (E : Et) (l : List Expr) (g : Sg → M (List D)) : Prop where
  run : PAs X ct E l g
  star : l.all notStar = true
  nil : l = [] → g = fun _ => M.pure []
mutual
theorem ok_e : ∀ (a : Ex) {X : Cx} {N : List Str} {sc : Scope} {fb : Str → Bool} {E : Et} {t : Bool} {e : Expr}, Cok T nm ct k X N sc fb E → okE nm N sc fb t a e = true → GE X ct E t e (fun σ => ev (par T k) a σ)
  | .var i, X, N, sc, fb, E, t, e, C, h => by
    simp only [okE] at h
    split at h
    · simp only [Bool.and_eq_true, decide_eq_true_eq] at h
      exact .plain (e_var C h.1.1 h.1.2 h.2) rfl
    · cases h
  | .con d, X, N, sc, fb, E, t, e, C, h => by
    simp only [okE] at h
    split at h
    · exact .plain (e_con h) rfl
    · cases h
  | .glo x d, X, N, sc, fb, E, t, e, C, h => by
    simp only [okE] at h
    split at h
    · simp only [Bool.and_eq_true, decide_eq_true_eq] at h
      obtain ⟨⟨⟨⟨rfl, h1⟩, h2⟩, h3⟩, h4⟩ := h
      exact .plain (e_glo C h1 h2 h4) rfl
    · cases h
  | .bin o a b, X, N, sc, fb, E, t, e, C, h => by
    simp only [okE] at h
    split at h
    · simp only [Bool.and_eq_true] at h
      exact .plain (e_bin C h.1.1 ((ok_e a C h.1.2).val rfl) ((ok_e b C h.2).val rfl)) rfl
    · cases h
  | .neg a, X, N, sc, fb, E, t, e, C, h => by
    simp only [okE] at h
    split at h
    · exact .plain (e_neg C ((ok_e a C h).val rfl)) rfl
    · cases h
  | .cmp o a b, X, N, sc, fb, E, t, e, C, h => by
    simp only [okE] at h
    split at h
    · simp only [Bool.and_eq_true] at h
      have ha := (ok_e a C h.1.2).val rfl
      have hb := (ok_e b C h.2).val rfl
      exact .cmp (e_cmp C h.1.1.1 h.1.1.2 ha hb) (t_cmp C h.1.1.1 h.1.1.2 ha hb)
    · cases h
  | .inT a x ds neg, X, N, sc, fb, E, t, e, C, h => by
    simp only [okE] at h
    split at h
    · simp only [Bool.and_eq_true, decide_eq_true_eq] at h
      obtain ⟨⟨⟨⟨⟨h0, h1⟩, rfl⟩, h2⟩, h3⟩, h4⟩ := h
      obtain ⟨q1, q2⟩ := e_inT C h0 h2 h3 h4 ((ok_e a C h1).val rfl)
      exact .cmp q1 q2
    · cases h
  | .chn o1 o2 a b c, X, N, sc, fb, E, t, e, C, h => by
    simp only [okE] at h
    split at h
    · simp only [Bool.and_eq_true] at h
      obtain ⟨⟨⟨⟨⟨h1, h2⟩, h3⟩, h4⟩, h5⟩, h6⟩ := h
      have ha := (ok_e a C h4).val rfl
      have hb := (ok_e b C h5).val rfl
      have hc := (ok_e c C h6).val rfl
      exact .cmp (e_chn C h1 h2 h3 ha hb hc) (t_chn C h1 h2 h3 ha hb hc)
    · cases h
  | .and a b, X, N, sc, fb, E, t, e, C, h => by
    simp only [okE] at h
    split at h
    · simp only [Bool.and_eq_true] at h
      have ha := ok_e a C h.1
      have hb := ok_e b C h.2
      exact ⟨fun z => e_and (ha.val z) (e_one (hb.val z)), fun z => (t_and (ha.test z) (t_and1 (hb.test z))).pt, fun z _ _ _ _ => t_and (ha.test z) (t_and1 (hb.test z))⟩
    · simp only [Bool.and_eq_true] at h
      have ha := ok_e a C h.1.1
      have hb := ok_e b C h.2
      exact ⟨fun z => e_and (ha.val z) (hb.val z), fun z => (t_and (ha.test z) (hb.whole z _ _ _ rfl)).pt, fun z _ _ _ _ => t_and (ha.test z) (hb.whole z _ _ _ rfl)⟩
    · cases h
  | .or a b, X, N, sc, fb, E, t, e, C, h => by
    simp only [okE] at h
    split at h
    · simp only [Bool.and_eq_true] at h
      have ha := ok_e a C h.1
      have hb := ok_e b C h.2
      exact ⟨fun z => e_or (ha.val z) (e_one (hb.val z)), fun z => (t_or (ha.test z) (t_or1 (hb.test z))).pt, fun z _ _ _ _ => t_or (ha.test z) (t_or1 (hb.test z))⟩
    · simp only [Bool.and_eq_true] at h
      have ha := ok_e a C h.1.1
      have hb := ok_e b C h.2
      exact ⟨fun z => e_or (ha.val z) (hb.val z), fun z => (t_or (ha.test z) (hb.whole z _ _ _ rfl)).pt, fun z _ _ _ _ => t_or (ha.test z) (hb.whole z _ _ _ rfl)⟩
    · cases h
  | .not a, X, N, sc, fb, E, t, e, C, h => by
    simp only [okE] at h
    split at h
    · have ha := ok_e a C h
      exact ⟨fun z => e_not (ha.val z), fun z => t_not (ha.test z), fun z op l p q => nomatch q⟩
    · cases h
  | .ite c a b, X, N, sc, fb, E, t, e, C, h => by
    simp only [okE] at h
    split at h
    · simp only [Bool.and_eq_true, Bool.not_eq_true'] at h
      obtain ⟨⟨⟨h0, h1⟩, h2⟩, h3⟩ := h
      exact ⟨fun z => e_ite ((ok_e c C h1).test rfl) ((ok_e a C h2).val rfl) ((ok_e b C h3).val rfl), fun z => absurd (h0.symm.trans z) (by decide), fun z op l p q => nomatch q⟩
    · cases h
  | .tup es, X, N, sc, fb, E, t, e, C, h => by
    simp only [okE] at h
    split at h
    · exact .plain (e_tup (ok_es es C h).run) rfl
    · cases h
  | .lst es, X, N, sc, fb, E, t, e, C, h => by
    simp only [okE] at h
    split at h
    · exact .plain (e_lst (ok_es es C h).run) rfl
    · cases h
  | .dic es, X, N, sc, fb, E, t, e, C, h => by
    simp only [okE] at h
    split at h
    · simp only [Bool.and_eq_true, decide_eq_true_eq] at h
      exact .plain (e_dic (ok_ps es C h.2) h.1) rfl
    · cases h
  | .dic0, X, N, sc, fb, E, t, e, C, h => by
    simp only [okE] at h
    split at h
    · exact .plain e_dic0 rfl
    · cases h
  | .idx a b, X, N, sc, fb, E, t, e, C, h => by
    simp only [okE] at h
    split at h
    · simp only [Bool.and_eq_true] at h
      exact .plain (e_idx C h.1.1 ((ok_e a C h.1.2).val rfl) ((ok_e b C h.2).val rfl)) rfl
    · cases h
  | .sl a lo hi, X, N, sc, fb, E, t, e, C, h => by
    simp only [okE] at h
    split at h
    · simp only [Bool.and_eq_true] at h
      exact .plain (e_sl ((ok_e a C h.1.1).val rfl) (ok_o lo C h.1.2) (ok_o hi C h.2)) rfl
    · cases h
  | .rev a, X, N, sc, fb, E, t, e, C, h => by
    simp only [okE] at h
    cases h
  | .att a f, X, N, sc, fb, E, t, e, C, h => by
    simp only [okE] at h
    split at h
    · simp only [Bool.and_eq_true, decide_eq_true_eq] at h
      obtain ⟨⟨rfl, h1⟩, h2⟩ := h
      exact .plain (e_att C h1 ((ok_e a C h2).val rfl)) rfl
    · cases h
  | .call f es, X, N, sc, fb, E, t, e, C, h => by
    simp only [okE] at h
    split at h
    · simp only [Bool.and_eq_true, decide_eq_true_eq] at h
      obtain ⟨⟨⟨h0, h1⟩, h2⟩, h3⟩ := h
      have ha := ok_es es C h3
      exact .plain (e_call C h0 h1 h2 ha.star ha.run ha.nil) rfl
    · cases h
  | .meth m a es, X, N, sc, fb, E, t, e, C, h => by
    simp only [okE] at h
    split at h
    · simp only [Bool.and_eq_true, decide_eq_true_eq] at h
      obtain ⟨⟨⟨⟨⟨rfl, h1⟩, h2⟩, h3⟩, h4⟩, h5⟩ := h
      have ha := ok_es es C h5
      exact .plain (e_meth C h1 h2 h3 ha.star ((ok_e a C h4).val rfl) ha.run ha.nil) rfl
    · cases h
  | .new c es, X, N, sc, fb, E, t, e, C, h => by
    simp only [okE] at h
    split at h
    · simp only [Bool.and_eq_true, decide_eq_true_eq] at h
      obtain ⟨⟨⟨h0, h1⟩, h2⟩, h3⟩ := h
      have ha := ok_es es C h3
      exact .plain (e_new C h0 h1 h2 ha.star ha.run ha.nil) rfl
    · cases h
  | .bi b es, X, N, sc, fb, E, t, e, C, h => by
    simp only [okE] at h
    split at h
    · simp only [Bool.and_eq_true] at h
      obtain ⟨⟨⟨h0, h1⟩, h2⟩, h3⟩ := h
      have ha := ok_es es C h3
      exact .plain (e_bi C h0 h1 h2 ha.star ha.run) rfl
    · cases h
  | .bm m a es, X, N, sc, fb, E, t, e, C, h => by
    simp only [okE] at h
    split at h
    · simp only [Bool.and_eq_true, decide_eq_true_eq] at h
      obtain ⟨⟨⟨⟨⟨h0, h1⟩, h2⟩, h3⟩, h4⟩, h5⟩ := h
      have ha := ok_es es C h5
      exact .plain (e_bm C h0 h1 h2 h3 ha.star ((ok_e a C h4).val rfl) ha.run ha.nil) rfl
    · cases h
  | .isi a ts, X, N, sc, fb, E, t, e, C, h => by
    simp only [okE] at h
    split at h
    · simp only [Bool.and_eq_true] at h
      obtain ⟨⟨⟨⟨⟨h0, h1⟩, h2⟩, h3⟩, h4⟩, h5⟩ := h
      split at h5
      · simp only [Bool.and_eq_true] at h5
        exact .plain (e_isi C h0 h1 h2 h4 h5.1.1 h5.1.2 h5.2 ((ok_e a C h3).val rfl)) rfl
      · cases h5
    · cases h
  | .lc a (.mk tg it c) own, X, N, sc, fb, E, t, e, C, h => by
    simp only [okE] at h
    split at h
    · simp only [Bool.and_eq_true] at h
      obtain ⟨⟨⟨⟨⟨h0, h1⟩, h2⟩, h3⟩, h4⟩, h5⟩ := h
      exact .plain (e_lc C h1 h0 (evi_grd (par T k) it) (ok_i it C h2) (fun s H D cl fp => ok_t tg (C.blk _ s H D cl fp).none h3) (fun s H D cl fp => ok_c c (C.blk _ s H D cl fp) h4) (fun s H D cl fp => (ok_e a (C.blk _ s H D cl fp) h5).val rfl)) rfl
    · cases h
  | .lc2 a (.mk tg it c) (.mk tg2 it2 c2) own own2, X, N, sc, fb, E, t, e, C, h => by
    simp only [okE] at h
    split at h
    · simp only [Bool.and_eq_true, List.all_eq_true, decide_eq_true_eq] at h
      obtain ⟨⟨⟨⟨⟨⟨⟨⟨⟨⟨h0, h0'⟩, h1⟩, hown⟩, h2⟩, h3⟩, h4⟩, g2⟩, g3⟩, g4⟩, h5⟩ := h
      exact .plain (e_lc2 C h1 hown h0 h0' (evi_grd (par T k) it) (evi_grd (par T k) it2) (ok_i it C h2) (fun s H D cl fp => ok_t tg (C.blk _ s H D cl fp).none h3) (fun s H D cl fp => ok_c c (C.blk _ s H D cl fp) h4)
        (fun s H D cl fp => ok_i it2 (C.blk _ s H D cl fp) g2) (fun s H D cl fp => ok_t tg2 (C.blk _ s H D cl fp).none g3) (fun s H D cl fp => ok_c c2 (C.blk _ s H D cl fp) g4) (fun s H D cl fp => (ok_e a (C.blk _ s H D cl fp) h5).val rfl)) rfl
    · cases h
  | .dc a b (.mk tg it c) own, X, N, sc, fb, E, t, e, C, h => by
    simp only [okE] at h
    split at h
    · simp only [Bool.and_eq_true] at h
      obtain ⟨⟨⟨⟨⟨⟨h0, h1⟩, h2⟩, h3⟩, h4⟩, h5⟩, h6⟩ := h
      exact .plain (e_dc C h1 h0 (evi_grd (par T k) it) (ok_i it C h2) (fun s H D cl fp => ok_t tg (C.blk _ s H D cl fp).none h3) (fun s H D cl fp => ok_c c (C.blk _ s H D cl fp) h4) (fun s H D cl fp => (ok_e a (C.blk _ s H D cl fp) h5).val rfl) (fun s H D cl fp => (ok_e b (C.blk _ s H D cl fp) h6).val rfl)) rfl
    · cases h
  | .fz a, X, N, sc, fb, E, t, e, C, h => by
    simp only [okE, Bool.and_eq_true, Bool.not_eq_true'] at h
    exact ⟨fun z => e_fz ((ok_e a C h.2).val rfl), fun z => absurd (h.1.symm.trans z) (by decide), fun z => absurd (h.1.symm.trans z) (by decide)⟩
theorem ok_es : ∀ (a : Exs) {X : Cx} {N : List Str} {sc : Scope} {fb : Str → Bool} {E : Et} {l : List Expr}, Cok T nm ct k X N sc fb E → okEs nm N sc fb a l = true → GA X ct E l (fun σ => evs (par T k) a σ)
  | .nil, X, N, sc, fb, E, l, C, h => by
    simp only [okEs, List.isEmpty_iff] at h
    subst h
    exact ⟨a_nil, rfl, fun _ => rfl⟩
  | .cons a r, X, N, sc, fb, E, l, C, h => by
    simp only [okEs] at h
    split at h
    · simp only [Bool.and_eq_true] at h
      have hr := ok_es r C h.2
      exact ⟨a_cons h.1.1 ((ok_e a C h.1.2).val rfl) hr.run, by simp only [List.all_cons, h.1.1, hr.star, Bool.and_self], fun z => nomatch z⟩
    · cases h
theorem ok_o : ∀ (a : Op) {X : Cx} {N : List Str} {sc : Scope} {fb : Str → Bool} {E : Et} {o : Option Expr}, Cok T nm ct k X N sc fb E → okO nm N sc fb a o = true → POs X ct E o (fun σ => evo (par T k) a σ)
  | .no, X, N, sc, fb, E, o, C, h => by
    simp only [okO, Option.isNone_iff_eq_none] at h
    subst h
    exact o_no
  | .yes a, X, N, sc, fb, E, o, C, h => by
    simp only [okO] at h
    split at h
    · exact o_yes ((ok_e a C h).val rfl)
    · cases h
theorem ok_ps : ∀ (a : Exs) {X : Cx} {N : List Str} {sc : Scope} {fb : Str → Bool} {E : Et} {ks : List (Option Expr)} {vs : List Expr}, Cok T nm ct k X N sc fb E → okP nm N sc fb a ks vs = true → PPd X ct E ks vs (fun σ => evs (par T k) a σ)
  | .nil, X, N, sc, fb, E, ks, vs, C, h => by
    simp only [okP, Bool.and_eq_true, List.isEmpty_iff] at h
    obtain ⟨rfl, rfl⟩ := h
    exact .nil
  | .cons a (.cons b r), X, N, sc, fb, E, ks, vs, C, h => by
    simp only [okP] at h
    split at h
    · simp only [Bool.and_eq_true] at h
      exact .cons ((ok_e a C h.1.1).val rfl) ((ok_e b C h.1.2).val rfl) (ok_ps r C h.2)
    · cases h
  | .cons a .nil, X, N, sc, fb, E, ks, vs, C, h => by
    simp only [okP] at h
    cases h
theorem ok_c : ∀ (a : Op) {X : Cx} {N : List Str} {sc : Scope} {fb : Str → Bool} {l : List Expr}, Cok T nm ct k X N sc fb E0 → okC nm N sc fb a l = true → L2.PTs X l (tX X ct E0 RE (fun σ => evt (par T k) a σ))
  | .no, X, N, sc, fb, l, C, h => by
    simp only [okC, List.isEmpty_iff] at h
    subst h
    exact L2PTs.imp pts_nil fun σ H Q ⟨u, σ3, h, S, R, q⟩ => q u H true Later.refl R rfl
  | .yes a, X, N, sc, fb, l, C, h => by
    simp only [okC] at h
    split at h
    · exact pts_one ((ok_e a C h).test rfl)
    · cases h
theorem ok_i : ∀ (a : PX.It) {X : Cx} {N : List Str} {sc : Scope} {fb : Str → Bool} {E : Et} {tg e : Expr}, Cok T nm ct k X N sc fb E → okI nm N sc fb tg a e = true → PIs X ct E tg e (fun σ => evi (par T k) a σ)
  | .vals a, X, N, sc, fb, E, tg, e, C, h => by
    simp only [okI] at h
    exact i_vals ((ok_e a C h).val rfl)
  | .valT x ds, X, N, sc, fb, E, tg, e, C, h => by
    simp only [okI] at h
    split at h
    · simp only [Bool.and_eq_true, decide_eq_true_eq] at h
      obtain ⟨⟨⟨rfl, h1⟩, h2⟩, h3⟩ := h
      exact i_valT C h1 h2 h3
    · cases h
  | .rng1 a, X, N, sc, fb, E, tg, e, C, h => by
    simp only [okI] at h
    split at h
    · simp only [Bool.and_eq_true, beq_iff_eq] at h
      obtain ⟨⟨⟨⟨rfl, h1⟩, h2⟩, h3⟩, h4⟩ := h
      exact i_rng1 C h1 h2 h3 ((ok_e a C h4).val rfl)
    · cases h
  | .rng2 a b, X, N, sc, fb, E, tg, e, C, h => by
    simp only [okI] at h
    split at h
    · simp only [Bool.and_eq_true, beq_iff_eq] at h
      obtain ⟨⟨⟨⟨⟨⟨rfl, h1⟩, h2⟩, h3⟩, h4⟩, h5⟩, h6⟩ := h
      exact i_rng2 C h1 h2 h3 h4 ((ok_e a C h5).val rfl) ((ok_e b C h6).val rfl)
    · cases h
  | .zip a b, X, N, sc, fb, E, tg, e, C, h => by
    simp only [okI] at h
    split at h
    · simp only [Bool.and_eq_true, beq_iff_eq] at h
      obtain ⟨⟨⟨⟨⟨⟨⟨rfl, h1⟩, h2⟩, h3⟩, h4⟩, ht⟩, h5⟩, h6⟩ := h
      cases tg with
      | Tuple es kk tp => exact i_zip C h1 h2 h3 h4 ((ok_e a C h5).val rfl) ((ok_e b C h6).val rfl)
      | _ => cases ht
    · cases h
  | .enum a, X, N, sc, fb, E, tg, e, C, h => by
    simp only [okI] at h
    split at h
    · simp only [Bool.and_eq_true, beq_iff_eq] at h
      obtain ⟨⟨⟨⟨⟨rfl, h1⟩, h2⟩, h3⟩, ht⟩, h5⟩ := h
      cases tg with
      | Tuple es kk tp => exact i_enum C h1 h2 h3 ((ok_e a C h5).val rfl)
      | _ => cases ht
    · cases h
  | .rev a, X, N, sc, fb, E, tg, e, C, h => by
    simp only [okI] at h
    split at h
    · simp only [Bool.and_eq_true, beq_iff_eq] at h
      obtain ⟨⟨⟨⟨rfl, h1⟩, h2⟩, h3⟩, h4⟩ := h
      exact i_rev C h1 h2 h3 ((ok_e a C h4).val rfl)
    · cases h
theorem ok_t : ∀ (a : Tg) {X : Cx} {N : List Str} {sc : Scope} {fb : Str → Bool} {st : Bool} {own : List Nat} {e : Expr}, Cok T nm ct k X N sc fb E0 → okT nm N sc fb st own a e = true → PGx X ct own e (fun d σ => asg (par T k) a d σ)
  | .name i, X, N, sc, fb, st, own, e, C, h => by
    simp only [okT] at h
    split at h
    · simp only [Bool.and_eq_true, decide_eq_true_eq] at h
      exact g_name C h.1.1 h.1.2 h.2
    · cases h
  | .tup ts, X, N, sc, fb, st, own, e, C, h => by
    simp only [okT] at h
    split at h
    · simp only [Bool.and_eq_true] at h
      obtain ⟨h1, h2⟩ := ok_ts ts C h.1 h.2
      refine PG.imp (g_tup C h.1 h1) fun v σ H Q ⟨u, σ3, h, d, S, R, r, q⟩ => ⟨u, σ3, h, d, S, R, r, ?_⟩
      rw [← h2]
      cases d <;> exact q
    · cases h
  | .sub a b, X, N, sc, fb, st, own, e, C, h => by
    simp only [okT] at h
    split at h
    · simp only [Bool.and_eq_true] at h
      exact g_sub C ((ok_e a C h.1.2).val rfl) ((ok_e b C h.2).val rfl) h.1.1.2
    · cases h
  | .fld a f, X, N, sc, fb, st, own, e, C, h => by
    simp only [okT] at h
    cases h
theorem ok_ts : ∀ (a : Tgs) {X : Cx} {N : List Str} {sc : Scope} {fb : Str → Bool} {st : Bool} {own : List Nat} {l : List Expr}, Cok T nm ct k X N sc fb E0 → l.all notStar = true → okTs nm N sc fb st own a l = true →
    PGsx X ct own l (fun ds σ => asgs (par T k) a ds σ) ∧ tgsN a = l.length
  | .nil, X, N, sc, fb, st, own, l, C, hs, h => by
    simp only [okTs, List.isEmpty_iff] at h
    subst h
    exact ⟨PGs.imp gs_nil fun v σ H Q ⟨u, σ3, h, ds, S, R, r, q⟩ => ⟨u, σ3, h, ds, S, R, r, by cases ds <;> exact q⟩, rfl⟩
  | .cons t r, X, N, sc, fb, st, own, l, C, hs, h => by
    simp only [okTs] at h
    split at h
    · simp only [Bool.and_eq_true, List.all_cons] at h hs
      obtain ⟨h1, h2⟩ := ok_ts r C hs.2 h.2
      exact ⟨PGs.imp (gs_cons hs.1 (ok_t t C h.1) h1) fun v σ H Q ⟨u, σ3, h, ds, S, R, r, q⟩ => ⟨u, σ3, h, ds, S, R, r, by cases ds <;> exact q⟩, by simp only [tgsN, List.length_cons, h2]⟩
    · cases h
end
end
end PX

/-! PXs: statements: what an answer asks; one lemma for each kind. -/
namespace PX
open PySem PySem.Spec PyProof.Rows L2
section
variable {K : Fr} {ct : Nat → Option Addr} {E : Et} {D : Ends} {u u1 : List Addr} {h : Hs} {H H1 : Hp}
/-- what an answer of a statement asks -/
def OutOk (K : Fr) (ct : Nat → Option Addr) (E : Et) (D : Ends) (u : List Addr) (H : Hp) : Res Out → Prop
  | .ok (.nx σ3) h' => ∀ u' H' σ, Later u H u' H' → HR K ct u' h' H' → RS K u' H' σ3 σ → D.nx σ H'
  | .ok (.rt d) h' => ∀ u' H' v, Later u H u' H' → HR K ct u' h' H' → RV K u' H' d v → D.rt v H'
  | .ok (.bk σ3) h' => ∀ u' H' σ, Later u H u' H' → HR K ct u' h' H' → RS K u' H' σ3 σ → D.bk σ H'
  | .ok (.ct σ3) h' => ∀ u' H' σ, Later u H u' H' → HR K ct u' h' H' → RS K u' H' σ3 σ → D.ct σ H'
  | .ok (.er c fs σ3) h' => ∀ u' H' σ, Later u H u' H' → HR K ct u' h' H' → RS K u' H' σ3 σ → E c fs u' h' H' σ
  | .err _ _ _ => False
  | .stuck => False
theorem OutOk.later {r : Res Out} (q : OutOk K ct E D u H r) (l : Later u H u1 H1) : OutOk K ct E D u1 H1 r := by
  cases r with
  | ok o h' => cases o <;> exact fun u' H' z l' R' S' => q u' H' z (l.trans l') R' S'
  | err c fs h' => exact q
  | stuck => exact q
theorem Ok.lift {α β : Type} {Rl : α → Hp → List Addr → Hp → β → Prop} {σ3 : Sg} {σ : L2.St} {m : M α} {kk : α → M Out} {Q : β → Hp → Prop} (q : OutOk K ct E D u H (lift σ3 m kk h)) (S : RS K u H σ3 σ)
    (f : ∀ a h1 u1 H1 b, m h = .ok a h1 → Later u H u1 H1 → HR K ct u1 h1 H1 → Rl a H u1 H1 b → OutOk K ct E D u1 H1 (kk a h1) → Q b H1) : Pg K ct (fun c fs u h H => E c fs u h H σ) Rl u H (m h) Q := by
  unfold PX.lift at q
  cases e : m h with
  | ok a h1 =>
    rw [e] at q
    exact fun u1 H1 b l R r => f a h1 u1 H1 b e l R r (q.later l)
  | err c fs h1 =>
    rw [e] at q
    exact fun u1 H1 l R => q u1 H1 σ l R (S.up l)
  | stuck => rw [e] at q; exact q.elim
theorem Ok.calm {α β : Type} {Rl : α → Hp → List Addr → Hp → β → Prop} {Er : Ft} {m : M α} {kk : α → M Out} {Q : β → Hp → Prop} (q : OutOk K ct E D u H (calm m kk h))
    (f : ∀ a h1 u1 H1 b, m h = .ok a h1 → Later u H u1 H1 → HR K ct u1 h1 H1 → Rl a H u1 H1 b → OutOk K ct E D u1 H1 (kk a h1) → Q b H1) : Pg K ct Er Rl u H (m h) Q := by
  unfold PX.calm at q
  cases e : m h with
  | ok a h1 =>
    rw [e] at q
    exact fun u1 H1 b l R r => f a h1 u1 H1 b e l R r (q.later l)
  | err c fs h1 => rw [e] at q; exact q.elim
  | stuck => rw [e] at q; exact q.elim
end
/-- the reading of a statement -/
def sX (X : Cx) (ct : Nat → Option Addr) (E : Et) (g : Sg → M Out) : TS := fun D σ H => ∃ u σ3 h, RS X.K u H σ3 σ ∧ HR X.K ct u h H ∧ OutOk X.K ct E D u H (g σ3 h)
/-- where a statement stands -/
structure Csk (T : Prog) (nm : Nm) (ct : Nat → Option Addr) (k : Nat) (X : Cx) (N : List Str) (sc : Scope) (fb : Str → Bool) (E : Et) : Prop extends Cok T nm ct k X N sc fb E where
  own : PassesOwn (model X.prog X.w) X.A X.env X.xe
  stk : X.stack = X.env :: X.outer
  fr : X.env.frame = some X.env.locals
  kd : sc.kind = .function
section
variable {T : Prog} {nm : Nm} {ct : Nat → Option Addr} {k : Nat} {X : Cx} {N : List Str} {sc : Scope} {fb : Str → Bool} {E : Et}
abbrev PSx (X : Cx) (ct : Nat → Option Addr) (E : Et) (s : Stmt) (g : Sg → M Out) : Prop := PS X s (sX X ct E g)
abbrev PSsx (X : Cx) (ct : Nat → Option Addr) (E : Et) (s : List Stmt) (g : Sg → M Out) : Prop := PSs X s (sX X ct E g)
/-! ### one after another -/
theorem ss_nil : PSsx X ct E [] fun σ => M.pure (.nx σ) := PSs.imp pss_nil fun D σ H ⟨u, σ3, h, S, R, q⟩ => q u H σ Later.refl R S
def seqO (o : M Out) (r : Sg → M Out) : M Out := o.bind fun o => match o with
    | .nx σ2 => r σ2
    | o => M.pure o
theorem ss_cons {s : Stmt} {r : List Stmt} {g gr : Sg → M Out} (hs : PSx X ct E s g) (hr : PSsx X ct E r gr) : PSsx X ct E (s :: r) fun σ => seqO (g σ) gr := by
  refine PSs.imp (pss_cons hs hr) fun D σ H ⟨u, σ3, h, S, R, q⟩ => ⟨u, σ3, h, S, R, ?_⟩
  have q : OutOk X.K ct E D u H (seqO (g σ3) gr h) := q
  unfold seqO M.bind at q
  cases e : g σ3 h with
  | ok o h1 =>
    rw [e] at q
    cases o with
    | nx σ4 => exact fun u' H' σ' l R' S' => ⟨u', σ4, h1, S', R', q.later l⟩
    | rt d => exact q
    | bk σ4 => exact q
    | ct σ4 => exact q
    | er c fs σ4 => exact q
  | err c fs h1 => rw [e] at q; exact q.elim
  | stuck => rw [e] at q; exact q.elim
/-! ### small ones -/
theorem s_pass {pos : Pos} : PSx X ct E (.Pass pos) fun σ => M.pure (.nx σ) := PS.imp ps_pass fun D σ H ⟨u, σ3, h, S, R, q⟩ => q u H σ Later.refl R S
theorem s_brk {pos : Pos} : PSx X ct E (.Break pos) fun σ => M.pure (.bk σ) := PS.imp ps_break fun D σ H ⟨u, σ3, h, S, R, q⟩ => q u H σ Later.refl R S
theorem s_cont {pos : Pos} : PSx X ct E (.Continue pos) fun σ => M.pure (.ct σ) := PS.imp ps_continue fun D σ H ⟨u, σ3, h, S, R, q⟩ => q u H σ Later.refl R S
theorem s_retN {pos : Pos} : PSx X ct E (.Return none pos) fun _ => M.pure (.rt .non) := PS.imp ps_retN fun D σ H ⟨u, σ3, h, S, R, q⟩ => q u H .non Later.refl R .non
theorem s_nev {s : Stmt} : PSx X ct E s fun _ => M.stuck := PS.imp ps_never fun D σ H ⟨u, σ3, h, S, R, q⟩ => q
theorem s_ret {e : Expr} {g : Sg → M Raw} {pos : Pos} (he : PRw X ct E e g) : PSx X ct E (.Return (some e) pos) fun σ => lift σ (V3 (g σ)) fun d => M.pure (.rt d) :=
  PS.imp (ps_ret (PRw.val he)) fun D σ H ⟨u, σ3, h, S, R, q⟩ => ⟨u, σ3, h, S, R, Ok.lift q S fun d h1 u1 H1 v _ l R1 r q1 => q1 u1 H1 v Later.refl R1 r⟩
theorem s_exp {e : Expr} {g : Sg → M Raw} {pos : Pos} (hn : notComp e = true) (he : PRw X ct E e g) : PSx X ct E (.Expr e pos) fun σ => lift σ (V3 (g σ)) fun _ => M.pure (.nx σ) :=
  PS.imp (ps_expr (PRw.val he) (by cases e <;> first | rfl | cases hn)) fun D σ H ⟨u, σ3, h, S, R, q⟩ => ⟨u, σ3, h, S, R, Ok.lift q S fun d h1 u1 H1 v _ l R1 r q1 => q1 u1 H1 σ Later.refl R1 (S.up l)⟩
theorem s_ite {c : Expr} {a b : List Stmt} {gc : Sg → M Bool} {ga gb : Sg → M Out} {pos : Pos} (hc : PTs X ct E c gc) (ha : PSsx X ct E a ga) (hb : PSsx X ct E b gb) : PSx X ct E (.If c a b pos) fun σ => lift σ (gc σ) fun t => if t then ga σ else gb σ := by
  refine PS.imp (ps_if hc ha hb) fun D σ H ⟨u, σ3, h, S, R, q⟩ => ⟨u, σ3, h, S, R, Ok.lift q S fun t h1 u1 H1 b _ l R1 r q1 => ?_⟩
  cases r
  cases t with
  | true => exact ⟨u1, σ3, h1, S.up l, R1, q1⟩
  | false => exact ⟨u1, σ3, h1, S.up l, R1, q1⟩
/-! ### loops -/
theorem OutOk.loop {D : Ends} {u : List Addr} {H : Hp} {r : Res Out} {F : Sg → M Out} (q : OutOk X.K ct E D u H (match r with
      | .ok (.nx σ') h' => F σ' h'
      | .ok (.ct σ') h' => F σ' h'
      | .ok (.bk σ') h' => .ok (.nx σ') h'
      | .ok o h' => .ok o h'
      | .err _ _ _ => .stuck
      | .stuck => .stuck)) : OutOk X.K ct E { D with nx := fun σ' H' => ∃ u' σ3 h, Later u H u' H' ∧ RS X.K u' H' σ3 σ' ∧ HR X.K ct u' h H' ∧ OutOk X.K ct E D u' H' (F σ3 h), ct := fun σ' H' => ∃ u' σ3 h, Later u H u' H' ∧ RS X.K u' H' σ3 σ' ∧ HR X.K ct u' h H' ∧ OutOk X.K ct E D u' H' (F σ3 h), bk := D.nx } u H r := by
  cases r with
  | ok o h1 =>
    cases o with
    | nx σ4 => exact fun u' H' σ' l R' S' => ⟨u', σ4, h1, l, S', R', q.later l⟩
    | ct σ4 => exact fun u' H' σ' l R' S' => ⟨u', σ4, h1, l, S', R', q.later l⟩
    | rt d => exact q
    | bk σ4 => exact q
    | er c fs σ4 => exact q
  | err c fs h1 => exact q.elim
  | stuck => exact q.elim
theorem s_while (hp : PassesOwn (model X.prog X.w) X.A X.env X.xe) {c : Expr} {b : List Stmt} {gc : Sg → M Bool} {gb : Sg → M Out} {pos : Pos} {wf : Nat} (hc : PTs X ct E c gc) (hb : PSsx X ct E b gb) : PSx X ct E (.While c b [] pos) fun σ => whileI gc gb wf σ := by
  refine PS.imp (ps_while hp hc hb) fun D σ H ⟨u, σ3, h, S, R, q⟩ => ?_
  refine ⟨fun m σ H => ∃ u σ3 h, RS X.K u H σ3 σ ∧ HR X.K ct u h H ∧ OutOk X.K ct E D u H (whileI gc gb m σ3 h), ⟨wf, u, σ3, h, S, R, q⟩, ?_⟩
  rintro m σ H ⟨u, σ3, h, S, R, q⟩
  cases m with
  | zero => exact q.elim
  | succ m =>
    refine ⟨u, σ3, h, S, R, Ok.lift (kk := fun b => if b then fun h => match gb σ3 h with
      | .ok (.nx σ') h' => whileI gc gb m σ' h'
      | .ok (.ct σ') h' => whileI gc gb m σ' h'
      | .ok (.bk σ') h' => .ok (.nx σ') h'
      | .ok o h' => .ok o h'
      | .err _ _ _ => .stuck
      | .stuck => .stuck
    else fun h => .ok (.nx σ3) h) q S fun t h1 u1 H1 b _ l R1 r q1 => ?_⟩
    cases r
    cases t with
    | false => exact q1 u1 H1 σ Later.refl R1 (S.up l)
    | true =>
      have q2 : OutOk X.K ct E D u1 H1 (match gb σ3 h1 with
        | .ok (.nx σ') h' => whileI gc gb m σ' h'
        | .ok (.ct σ') h' => whileI gc gb m σ' h'
        | .ok (.bk σ') h' => .ok (.nx σ') h'
        | .ok o h' => .ok o h'
        | .err _ _ _ => .stuck
        | .stuck => .stuck) := q1
      refine ⟨fun σ' H' => ∃ u' σ3 h, Later u1 H1 u' H' ∧ RS X.K u' H' σ3 σ' ∧ HR X.K ct u' h H' ∧ OutOk X.K ct E D u' H' (whileI gc gb m σ3 h), ?_, u1, σ3, h1, S.up l, R1, OutOk.loop q2⟩
      rintro σ' H' ⟨u', σ4, h', l', S', R', q'⟩
      exact ⟨m, Nat.lt_succ_self m, u', σ4, h', S', R', q'⟩
theorem s_for (C : Csk T nm ct k X N sc fb E) {tg iter : Expr} {b : List Stmt} {gi : Sg → M (List D × Grd)} {ga : D → Sg → M Sg} {gb : Sg → M Out} {own : List Nat} {pos : Pos} (hs : notSet iter = true) (hgrd : ∀ σ h r h', gi σ h = .ok r h' → grdOk h' r.2 = true)
    (hi : PIs X ct E tg iter gi) (hg : PGx X ct own tg ga) (hb : PSsx X ct E b gb) : PSx X ct E (.For tg iter b [] pos) fun σ => lift σ (gi σ) fun r => loopI (fun x σ => calm (ga x σ) fun σ2 => gb σ2) r.2 r.1 σ := by
  refine PS.imp (ps_for C.own C.calm hi hg hb (fold_of hs)) fun D σ H ⟨u, σ3, h, S, R, q⟩ => ⟨u, σ3, h, S, R, Ok.lift q S fun r h1 u1 H1 J em l R1 w q1 => ?_⟩
  have w : Wlk X.K ct r.1 r.2 u1 H1 J := w
  refine ⟨fun i m σ H => m = r.1.length - i ∧ i ≤ r.1.length ∧ ∃ u σ3 h, Wk u1 H1 u H ∧ RS X.K u H σ3 σ ∧ HR X.K ct u h H ∧ grdOk h r.2 = true ∧ OutOk X.K ct E D u H (loopI (fun x σ => PX.calm (ga x σ) fun σ2 => gb σ2) r.2 (r.1.drop i) σ3 h),
    ⟨_, rfl, Nat.zero_le _, u1, σ3, h1, Later.refl.wk, S.up l, R1, hgrd _ _ _ _ em, q1⟩, ?_⟩
  rintro i m σ2 H2 ⟨rfl, hi, u2, σ4, h2, k2, S2, R2, hg2, q2⟩
  by_cases hlt : i < r.1.length
  · right
    obtain ⟨go, yl⟩ := w.go i r.1[i] u2 h2 H2 (List.getElem?_eq_getElem hlt) k2 R2 hg2
    rw [drop_at hlt] at q2
    refine ⟨go, fun σ' H' => ∃ u σ3 h, Wk u1 H1 u H' ∧ RS X.K u H' σ3 σ' ∧ HR X.K ct u h H' ∧ grdOk h r.2 = true ∧ OutOk X.K ct E D u H' (loopI (fun x σ => PX.calm (ga x σ) fun σ2 => gb σ2) r.2 (r.1.drop (i + 1)) σ3 h), ?_, fun x H' hy => ?_⟩
    · rintro σ' H' n
      exact ⟨r.1.length - (i + 1), by omega, rfl, hlt, n⟩
    · obtain ⟨l3, R3, r3⟩ := yl x H' hy
      refine ⟨u2, σ4, h2, r.1[i], S2.up l3, R3, r3, ?_⟩
      have q3 : OutOk X.K ct E D u2 H' (match PX.calm (ga r.1[i] σ4) (fun σ2 => gb σ2) h2 with
        | .ok (.nx σ') h' => if grdOk h' r.2 then loopI (fun x σ => PX.calm (ga x σ) fun σ2 => gb σ2) r.2 (r.1.drop (i + 1)) σ' h' else .stuck
        | .ok (.ct σ') h' => if grdOk h' r.2 then loopI (fun x σ => PX.calm (ga x σ) fun σ2 => gb σ2) r.2 (r.1.drop (i + 1)) σ' h' else .stuck
        | .ok (.bk σ') h' => .ok (.nx σ') h'
        | .ok o h' => .ok o h'
        | .err _ _ _ => .stuck
        | .stuck => .stuck) := q2.later l3
      have q4 := OutOk.loop (F := fun σ' h' => if grdOk h' r.2 then loopI (fun x σ => PX.calm (ga x σ) fun σ2 => gb σ2) r.2 (r.1.drop (i + 1)) σ' h' else .stuck) q3
      refine Ok.calm (kk := fun σ2 => gb σ2) q4 fun σ5 h5 u5 H5 σ6 _ l5 R5 r5 q5 => ?_
      refine ⟨u5, σ5, h5, r5.1, R5, ?_⟩
      have fin : ∀ {σ' H'}, (∃ u' σ3 h, Later u2 H2 u' H' ∧ RS X.K u' H' σ3 σ' ∧ HR X.K ct u' h H' ∧ OutOk X.K ct E D u' H' ((fun σ' h' => if grdOk h' r.2 then loopI (fun x σ => PX.calm (ga x σ) fun σ2 => gb σ2) r.2 (r.1.drop (i + 1)) σ' h' else .stuck) σ3 h)) →
          ∃ u σ3 h, Wk u1 H1 u H' ∧ RS X.K u H' σ3 σ' ∧ HR X.K ct u h H' ∧ grdOk h r.2 = true ∧ OutOk X.K ct E D u H' (loopI (fun x σ => PX.calm (ga x σ) fun σ2 => gb σ2) r.2 (r.1.drop (i + 1)) σ3 h) := fun {σ' H'} ⟨u', σ3, h, l, S', R', q'⟩ => by
        simp only at q'
        split at q'
        · rename_i hg'
          exact ⟨u', σ3, h, ⟨fun n a e => l.sub (k2.sub n a e), fun a vs e => l.tup a vs (k2.tup a vs e), fun a o x e => l.frz a o x (k2.frz a o x e)⟩, S', R', hg', q'⟩
        · exact q'.elim
      have l25 := l3.trans l5
      cases e : gb σ5 h5 with
      | ok o h6 =>
        rw [e] at q5
        cases o with
        | nx σ7 => exact fun u' H' σ' l R' S' => fin (let ⟨u8, σ8, h8, l8, s8⟩ := q5 u' H' σ' l R' S'; ⟨u8, σ8, h8, l3.trans l8, s8⟩)
        | ct σ7 => exact fun u' H' σ' l R' S' => fin (let ⟨u8, σ8, h8, l8, s8⟩ := q5 u' H' σ' l R' S'; ⟨u8, σ8, h8, l3.trans l8, s8⟩)
        | rt d => exact q5
        | bk σ7 => exact q5
        | er c fs σ7 => exact q5
      | err c fs h6 => rw [e] at q5; exact q5.elim
      | stuck => rw [e] at q5; exact q5.elim
  · left
    have e : i = r.1.length := by omega
    subst e
    rw [List.drop_length] at q2
    exact ⟨w.stop _ u2 h2 H2 (Nat.le_refl _) k2 R2 hg2, q2 u2 H2 σ2 Later.refl R2 S2⟩
end
end PX

/-! PXt: assignments, raise, try; the check of statements; the induction. -/
namespace PX
open PySem PySem.Spec PyProof.Rows L2
/-- a comprehension that CPython assigns in one go -/
def swB (sc : Scope) (x : Str) (p : Pos) : Expr → Bool
  | .ListComp _ _ s q | .SetComp _ _ s q | .DictComp _ _ _ s q => (if sc.kind.isAnnotationScope then ScopeKind.function else sc.kind) == .function && sc.names.lookup x == some .local && p.line == q.line && !(s.names.any fun (n, k) => n == x && (k == .local || k == .cell))
  | _ => false
theorem sw_name {env : Env} {sc : Scope} {x : Str} {p : Pos} {v : Expr} {line : Nat} (h : env.scope = sc) : swapsWith v (some (.Name x p)) line env = pure (swB sc x p v) := by
  subst h
  cases v <;> rfl
section
variable {T : Prog} {nm : Nm} {ct : Nat → Option Addr} {k : Nat} {X : Cx} {N : List Str} {sc : Scope} {fb : Str → Bool} {E : Et}
/-- behind a statement a list may be locked -/
theorem psn_lock {st : Stmt} {t : TS} (h : PS X st t) : PS X st (fun D σ H => t { D with nx := fun σ' H' => D.nx σ' H' ∨ ∃ p vs, H' p = some (.lst vs) ∧ ∀ o, D.nx σ' (upd H' p (.frz o (.lst vs))) } σ H) := by
  refine ⟨fun pins s σ H D I z => thn (h.run pins s σ H _ I z) fun f s1 q => ?_⟩
  cases f with
  | next =>
    obtain ⟨σ1, H1, I1, q⟩ := q
    rcases q with q | ⟨p, vs, e, q⟩
    · exact ⟨σ1, H1, I1, q⟩
    · obtain ⟨o, I2⟩ := L2.Inv.lock I1 e trivial
      exact ⟨σ1, _, I2, q o⟩
  | brk => exact q
  | cont => exact q
  | ret v => exact q
theorem s_asgG {tg e : Expr} {g : Sg → M Raw} {ga : D → Sg → M Sg} {own : List Nat} {pos : Pos} (he : PRw X ct E e g) (hg : PGx X ct own tg ga) (hs : swapsWithSole [tg] e pos.line X.env = pure false) (hw : swappedStores [tg] e X.env = pure none)
    (h1 : (assignEach [tg] X.env).map (·.2) = [assign tg X.env]) : PSx X ct E (.Assign [tg] e pos) fun σ => lift σ (V3 (g σ)) fun d => PX.calm (ga d σ) fun σ2 => M.pure (.nx σ2) := by
  refine PS.imp (ps_asg (PRw.val he) hg hs hw h1) fun D σ H ⟨u, σ3, h, S, R, q⟩ => ⟨u, σ3, h, S, R, Ok.lift q S fun d h1 u1 H1 v _ l R1 r q1 => ?_⟩
  exact ⟨u1, σ3, h1, d, S.up l, R1, r, Ok.calm q1 fun σ4 h2 u2 H2 σ' _ l2 R2 r2 q2 => q2 u2 H2 σ' Later.refl R2 r2.1⟩
variable (C : Csk T nm ct k X N sc fb E)
include C
theorem s_asgN {i : Nat} {x : Str} {e : Expr} {g : Sg → M Raw} {p pos : Pos} (hi : N[i]? = some x) (hl : (decide (sc.names.lookup x = some .local) || decide (sc.names.lookup x = some .cell) && fb x) = true) (hs : swB sc x p e = false) (he : PRw X ct E e g) :
    PSx X ct E (.Assign [.Name x p] e pos) fun σ => lift σ (V3 (g σ)) fun d => PX.calm (putN i d σ) fun σ2 => M.pure (.nx σ2) := by
  have hg := g_name C.toCok (own := [i]) (pos := p) hi (by simp) hl
  refine s_asgG he hg (by show swapsWith e (some (.Name x p)) pos.line X.env = _; rw [sw_name C.hs, hs]) (by cases e <;> rfl) rfl
/-- target = [..] in one go, locked or not -/
theorem s_asgL {i : Nat} {y : Str} {e : Expr} {g : Sg → M Raw} {py pos : Pos} (h : PS X (.Assign [.Name y py] e pos) (tAsg (tX X ct E (RW X.K) g) (gName i))) :
    (PSx X ct E (.Assign [.Name y py] e pos) fun σ => lift σ (V3 (g σ)) fun d => PX.calm (putN i d σ) fun σ2 => M.pure (.nx σ2)) ∧ PSx X ct E (.Assign [.Name y py] e pos) fun σ => lift σ (V3 ((g σ).bind fzR)) fun d => PX.calm (putN i d σ) fun σ2 => M.pure (.nx σ2) := by
  constructor
  · refine PS.imp h fun D σ H ⟨u, σ3, h, S, R, q⟩ => ⟨u, σ3, h, S, R, ?_⟩
    exact Pg.val (Ok.lift q S fun d h1 u1 H1 v _ l R1 r q1 => q1 u1 H1 _ Later.refl R1 ((S.up l).set r i))
  · refine PS.imp (psn_lock h) fun D σ H ⟨u, σ3, h, S, R, q⟩ => ⟨u, σ3, h, S, R, ?_⟩
    exact Pg.lock (Pg.val (Ok.lift (Q := fun v H1 => D.nx (σ.set i (some v)) H1) q S fun d h1 u1 H1 v _ l R1 r q1 => q1 u1 H1 _ Later.refl R1 ((S.up l).set r i)))
/-- o.f = value -/
theorem s_fld {o e : Expr} {f : Str} {ga g : Sg → M Raw} {p pos : Pos} (ho : PRw X ct E o ga) (he : PRw X ct E e g) : PSx X ct E (.Assign [.Attribute o f p] e pos) fun σ => lift σ (V3 (g σ)) fun d => PX.calm ((V3 (ga σ)).bind fun x => (fldD T.attr x f d).bind fun _ => M.pure σ) fun σ2 => M.pure (.nx σ2) := by
  refine PS.imp (ps_fld (PRw.val ho) (PRw.val he) (by cases e <;> rfl)) fun D σ H ⟨u, σ3, h, S, R, q⟩ => ⟨u, σ3, h, S, R, Ok.lift q S fun d h1 u1 H1 y _ l R1 r q1 => ?_⟩
  have lw : Low (RG X.K [] σ) := low_G
  refine ⟨u1, σ3, h1, S.up l, R1, (Ok.calm (Rl := RG X.K [] σ) (Q := fun σ' H' => D.nx σ' H') q1 fun σ4 h2 u2 H2 σ' _ l2 R2 r2 q2 => q2 u2 H2 σ' Later.refl R2 r2.1).bind lw fun x h2 _ u2 H2 v l2 R2 r2 q2 => ?_⟩
  have r2 : RV X.K u2 H2 x v := r2
  have r : RV X.K u1 H1 d y := r
  cases r2 with
  | @ref n a ha =>
    unfold M.bind fldD at q2
    cases hn : h2[n]? with
    | none => simp only [hn] at q2; exact q2.elim
    | some ob =>
      cases ob with
      | ins c fs =>
        simp only [hn] at q2
        obtain ⟨Ca, dx, vs, ec, ea, rk⟩ := R2.ob n _ a hn ha
        by_cases hc : fs.length < 1000 ∧ T.attr c f = true
        · rw [if_pos hc] at q2
          obtain ⟨hcl, hno⟩ := C.wd.attr c Ca f ec hc.2
          have l3 : Later u2 H2 u2 (upd H2 a (.ins Ca dx (L2.putF f y vs))) := Later.set (List.mem_of_getElem? ha) ea (fun _ => nofun) (fun _ _ => nofun)
          exact ⟨a, Ca, dx, vs, rfl, ea, hcl, hno, by rw [← rk.length]; exact hc.1, q2 u2 _ σ l3 (R2.set ha l3 ⟨Ca, dx, _, ec, upd_same, (rk.putF f (r.up l2)).up l3⟩) ⟨((S.up l).up l2).up l3, Zr.refl⟩⟩
        · rw [if_neg hc] at q2
          exact q2.elim
      | _ => simp only [hn] at q2; exact q2.elim
  | _ => exact q2.elim
/-! ### op= -/
omit C in
theorem aug_ok {o : Bop} {op : Operator} (h : bopB o op = true) : OpR X (inplaceOp op) fun x y H Q => ∃ u h d e r, HR X.K ct u h H ∧ RV X.K u H d x ∧ RV X.K u H e y ∧ augD o d e h = .ok r h ∧ ∀ v, RV X.K u H r v → Q v H := by
  intro pins s σ H x y v w Q I rx ry ⟨u, h, d, e, r, R, r1, r2, q, k⟩
  cases o with
  | add =>
    cases op <;> first
      | (cases h; done)
      | skip
    cases r1 with
    | int i =>
      cases r2 with
      | int j =>
        cases q
        exact ip_add pins s σ H _ _ v w Q I rx ry ⟨i, j, rfl, rfl, k _ (.int _)⟩
      | _ => cases q
    | str i =>
      cases r2 with
      | str j =>
        simp only [augD] at q
        split at q
        · rename_i hz
          cases q
          exact iop_add_str pins s σ H _ _ v w Q I rx ry ⟨i, j, rfl, rfl, by rw [← lim_eq]; exact hz, k _ (.str _)⟩
        · cases q
      | _ => cases q
    | _ => cases q
  | sub =>
    cases op <;> first
      | (cases h; done)
      | skip
    cases r1 with
    | int i =>
      cases r2 with
      | int j =>
        cases q
        exact ip_sub pins s σ H _ _ v w Q I rx ry ⟨i, j, rfl, rfl, k _ (.int _)⟩
      | _ => cases q
    | _ => cases q
  | _ => cases q
omit C in
theorem augD_st {o : Bop} {d e r : D} {h h' : Hs} (q : augD o d e h = .ok r h') : h' = h := by
  unfold augD at q
  repeat' (split at q)
  all_goals first
    | (cases q; rfl)
    | cases q
theorem s_aug {i : Nat} {x : Str} {o : Bop} {op : Operator} {e : Expr} {g : Sg → M Raw} {p pos : Pos} (hi : N[i]? = some x) (hl : (decide (sc.names.lookup x = some .local) || decide (sc.names.lookup x = some .cell) && fb x) = true) (ho : bopB o op = true) (he : PRw X ct E e g) :
    PSx X ct E (.AugAssign (.Name x p) op e pos) fun σ => lift σ (V3 (varD σ i)) fun x => lift σ (V3 (g σ)) fun y => PX.calm (augD o x y) fun z => M.pure (.nx (σ.set i (some z))) := by
  simp only [Bool.or_eq_true, Bool.and_eq_true, decide_eq_true_eq] at hl
  have h1 : Loc X.env.scope x ∧ (X.fn x = true ∨ X.env.scope.names.lookup x = some .local) := by
    rw [C.hs]
    rcases hl with h | ⟨h, h'⟩
    · exact ⟨.inl h, .inr h⟩
    · exact ⟨.inr h, .inl (C.hf x h')⟩
  refine PS.imp (ps_aug (by rw [C.hN]; exact C.nd) (by rw [C.hN]; exact hi) h1.1 (PRw.val he) (aug_ok (ct := ct) ho) h1.2) fun D σ H ⟨u, σ3, h, S, R, q⟩ => ?_
  have q : OutOk X.K ct E D u H (lift σ3 (V3 (varD σ3 i)) (fun x => lift σ3 (V3 (g σ3)) fun y => PX.calm (augD o x y) fun z => M.pure (.nx (σ3.set i (some z)))) h) := q
  unfold PX.lift at q
  cases e : σ3[i]? with
  | none =>
    have z : V3 (varD σ3 i) h = .stuck := by simp [V3, M.bind, varD, e]
    rw [z] at q
    exact q.elim
  | some w =>
    cases w with
    | none =>
      have z : V3 (varD σ3 i) h = .stuck := by simp [V3, M.bind, varD, e]
      rw [z] at q
      exact q.elim
    | some d =>
      have z : V3 (varD σ3 i) h = .ok d h := by simp [V3, M.bind, varD, e, toD, M.pure]
      rw [z] at q
      have q : OutOk X.K ct E D u H (lift σ3 (V3 (g σ3)) (fun y => PX.calm (augD o d y) fun z => M.pure (.nx (σ3.set i (some z)))) h) := q
      obtain ⟨v, hv, rv⟩ := S.2 i d e
      refine ⟨v, hv, u, σ3, h, S, R, Ok.lift q S fun y h2 u2 H2 w _ l2 R2 r2 q2 => ?_⟩
      unfold PX.calm at q2
      cases ea : augD o d y h2 with
      | ok z h3 =>
        rw [ea] at q2
        have e3 := augD_st ea
        subst e3
        exact ⟨u2, _, d, y, z, R2, rv.up l2, r2, ea, fun v rz => q2 u2 H2 _ Later.refl R2 ((S.up l2).set rz i)⟩
      | err c fs h3 => rw [ea] at q2; exact q2.elim
      | stuck => rw [ea] at q2; exact q2.elim
end
end PX

/-! PXu: more assignments, raise, try; the check of statements; the induction over statements. -/
namespace PX
open PySem PySem.Spec PyProof.Rows L2
def fnK (sc : Scope) : Bool := (if sc.kind.isAnnotationScope then ScopeKind.function else sc.kind) == .function
def parB (sc : Scope) (x y : Str) (px py : Pos) (a b : Expr) : Bool := fnK sc && notStar a && notStar b && (sc.names.lookup x == some .local) && (sc.names.lookup y == some .local) && (py.line == px.line) && !(x == y) && !([a, b].all (foldedForSure 8)) && !([a, b].all (constantsAlone 8))
theorem sw_par {env : Env} {sc : Scope} {x y : Str} {px py pt pt2 : Pos} {kt k2 : Nat} {a b : Expr} (hs : env.scope = sc) (h : parB sc x y px py a b = true) : swappedStores [.Tuple [.Name x px, .Name y py] kt pt] (.Tuple [a, b] k2 pt2) env = pure (some [x, y]) := by
  subst hs
  unfold parB at h
  simp only [Bool.and_eq_true, Bool.not_eq_true'] at h
  obtain ⟨⟨⟨⟨⟨⟨⟨⟨h1, h2⟩, h3⟩, h4⟩, h5⟩, h6⟩, h7⟩, h8⟩, h9⟩ := h
  have st : ([a, b].any fun | .Starred .. => true | _ => false) = false := by
    have one : ∀ e : Expr, notStar e = true → (match e with | .Starred .. => true | _ => false) = false := fun e h => by
      cases e <;> first
        | rfl
        | cases h
    simp only [List.any_cons, List.any_nil, one a h2, one b h3, Bool.or_self]
  have bk : (env.blockKind != .function) = false := by
    show (!(Env.blockKind env == .function)) = false
    rw [show (Env.blockKind env == .function) = true from h1]
    rfl
  have nm : ([Expr.Name x px, Expr.Name y py].filterMap fun
      | .Name id pos => if env.kindOf id == some .local && pos.line == px.line then some id else none
      | _ => none) = [x, y] := by
    simp only [List.filterMap_cons, List.filterMap_nil]
    rw [show (env.kindOf x == some NameKind.local) = true from h4, show (env.kindOf y == some NameKind.local) = true from h5, h6]
    simp
  have er : ([x, y].eraseDups) = [x, y] := by
    have : (y == x) = false := by
      cases e : y == x with
      | false => rfl
      | true => rw [beq_iff_eq.mp e] at h7; simp at h7
    simp [List.eraseDups_cons, this]
  unfold swappedStores
  simp only [List.length_cons, List.length_nil, bk, st, List.head?_cons, Option.map_some, Option.getD_some]
  rw [if_neg (by decide)]
  refine Eq.trans (if_neg ?_) ?_
  · intro z
    have z' := (Eq.symm z).trans st
    cases z'
  simp only [List.filterMap_cons, List.filterMap_nil, Expr.pos, Env.kindOf, h4, h5, h6, beq_self_eq_true, Bool.and_self, if_true, er, h8, h9, List.length_cons, List.length_nil, bne_self_eq_false, Bool.or_self, Bool.false_eq_true, if_false]
section
variable {T : Prog} {nm : Nm} {ct : Nat → Option Addr} {k : Nat} {X : Cx} {N : List Str} {sc : Scope} {fb : Str → Bool} {E : Et}
variable (C : Csk T nm ct k X N sc fb E)
include C
theorem s_par {i j : Nat} {x y : Str} {a b : Expr} {g : Sg → M (List D)} {px py pt pt2 pos : Pos} {kt k2 : Nat} (hi : N[i]? = some x) (hj : N[j]? = some y) (hij : i ≠ j) (hp : parB sc x y px py a b = true) (ha : PAs X ct E [a, b] g) :
    PSx X ct E (.Assign [.Tuple [.Name x px, .Name y py] kt pt] (.Tuple [a, b] k2 pt2) pos) fun σ => lift σ (g σ) fun ds => if ds.length = 2 then M.pure (.nx (setsN [i, j] ds σ)) else M.stuck := by
  have h4 : sc.names.lookup x = some .local ∧ sc.names.lookup y = some .local := by
    unfold parB at hp
    simp only [Bool.and_eq_true, beq_iff_eq] at hp
    exact ⟨hp.1.1.1.1.1.2, hp.1.1.1.1.2⟩
  refine PS.imp (ps_par C.calm (by rw [C.hN]; exact C.nd) (by rw [C.hN]; exact hi) (by rw [C.hN]; exact hj) hij (by rw [C.hs]; exact h4.1) (by rw [C.hs]; exact h4.2) ha (sw_par C.hs hp)) fun D σ H ⟨u, σ3, h, S, R, q⟩ => ⟨u, σ3, h, S, R, Ok.lift q S fun ds h1 u1 H1 vs _ l R1 r q1 => ?_⟩
  split at q1
  · rename_i h2
    have r : RVs X.K u1 H1 ds vs := r
    match ds, vs, r, h2, q1 with
    | [d, e], _, .cons r1 (.cons r2 .nil), _, q1 => exact ⟨_, _, rfl, q1 u1 H1 _ Later.refl R1 (((S.up l).set r1 i).set r2 j)⟩
  · exact q1.elim
/-- o.f op= e -/
theorem s_augF {a e : Expr} {f : Str} {o : Bop} {op : Operator} {ga g : Sg → M Raw} {p pos : Pos} (ho : bopB o op = true) (ha : PRw X ct E a ga) (he : PRw X ct E e g) :
    PSx X ct E (.AugAssign (.Attribute a f p) op e pos) fun σ => lift σ (V3 (ga σ)) fun x => PX.calm (clsM x) fun c => PX.calm (V3 (attD T.attr x f)) fun u => lift σ (V3 (g σ)) fun y => PX.calm (augD o u y) fun z => PX.calm (clsM x) fun c2 => if c2 = c then PX.calm (fldD T.attr x f z) fun _ => M.pure (.nx σ) else M.stuck := by
  refine PS.imp (ps_fldaug (PRw.val ha) (PRw.val he) (rd := fun x y H Q => ∃ u h d e r, HR X.K ct u h H ∧ RV X.K u H d x ∧ RV X.K u H e y ∧ augD o d e h = .ok r h ∧ ∀ v, RV X.K u H r v → Q v H) fun pins s σ H x y v w Q I rx ry z => aug_ok (ct := ct) ho pins s σ H x y v w Q I rx ry z) fun D σ H ⟨u, σ3, h, S, R, q⟩ => ⟨u, σ3, h, S, R, Ok.lift q S fun x h1 u1 H1 v _ l R1 r q1 => ?_⟩
  have r : RV X.K u1 H1 x v := r
  cases r with
  | @ref n ad hna =>
    unfold PX.calm at q1
    cases hn : h1[n]? with
    | none => simp only [clsM, hn] at q1; exact q1.elim
    | some ob =>
      cases ob with
      | ins c fs =>
        simp only [clsM, hn] at q1
        obtain ⟨Ca, dx, vs, ec, ea, rk⟩ := R1.ob n _ ad hn hna
        by_cases hc : T.attr c f = true
        · cases hlk : fs.lookup f with
          | none =>
            have z : V3 (attD T.attr (.ref n) f) h1 = .stuck := by simp [V3, M.bind, attD, hn, hc, hlk, retO]
            rw [z] at q1
            exact q1.elim
          | some d =>
            have z : V3 (attD T.attr (.ref n) f) h1 = .ok d h1 := by simp [V3, M.bind, attD, hn, hc, hlk, retO, toD, M.pure]
            rw [z] at q1
            obtain ⟨hcl, hno⟩ := C.wd.attr c Ca f ec hc
            obtain ⟨d', w, e1, e2, rw'⟩ : ∃ d' w, fs.lookup f = some d' ∧ vs.lookup f = some w ∧ RV X.K u1 H1 d' w := by
              rcases rk.lookup f with ⟨e1, _⟩ | z
              · rw [hlk] at e1; cases e1
              · exact z
            rw [hlk] at e1
            cases e1
            refine ⟨ad, Ca, dx, vs, w, rfl, ea, hcl, hno, e2, ?_⟩
            simp only at q1
            refine ⟨u1, σ3, h1, S.up l, R1, Ok.lift q1 (S.up l) fun y h2 u2 H2 wy _ l2 R2 r2 q2 => ?_⟩
            cases eg : augD o d y h2 with
            | stuck => rw [eg] at q2; exact q2.elim
            | err c fs h3 => rw [eg] at q2; exact q2.elim
            | ok z h3 =>
              have e3 := augD_st eg
              subst e3
              rw [eg] at q2
              simp only at q2
              cases hn2 : h3[n]? with
              | none => simp only [hn2] at q2; exact q2.elim
              | some ob2 =>
                cases ob2 with
                | ins c2 fs2 =>
                  simp only [hn2] at q2
                  split at q2
                  · rename_i hcc
                    subst hcc
                    refine ⟨u2, h3, d, y, z, R2, rw'.up l2, r2, eg, fun zv rz => ?_⟩
                    obtain ⟨Ca2, dx2, vs2, ec2, ea2, rk2⟩ := R2.ob n _ ad hn2 (l2.sub hna)
                    rw [ec] at ec2
                    cases ec2
                    simp only [fldD, hn2] at q2
                    by_cases hz : fs2.length < 1000 ∧ T.attr c2 f = true
                    · rw [if_pos hz] at q2
                      have l3 : Later u2 H2 u2 (upd H2 ad (.ins Ca dx2 (L2.putF f zv vs2))) := Later.set (List.mem_of_getElem? (l2.sub hna)) ea2 (fun _ => nofun) (fun _ _ => nofun)
                      exact ⟨dx2, vs2, ea2, by rw [← rk2.length]; exact hz.1, q2 u2 _ σ l3 (R2.set (l2.sub hna) l3 ⟨Ca, dx2, _, ec, upd_same, (rk2.putF f rz).up l3⟩) (((S.up l).up l2).up l3)⟩
                    · rw [if_neg hz] at q2
                      exact q2.elim
                  · exact q2.elim
                | _ => simp only [hn2] at q2; exact q2.elim
        · have z : V3 (attD T.attr (.ref n) f) h1 = .stuck := by simp [V3, M.bind, attD, hn, hc]
          rw [z] at q1
          exact q1.elim
      | _ => simp only [clsM, hn] at q1; exact q1.elim
  | _ => exact q1.elim
theorem s_raise {x : Str} {c : Nat} {e : Expr} {es : List Expr} {g : Sg → M (List D)} {p p2 pos : Pos} (h1 : nm.ex x = some c) (h2 : gloB sc x = true) (h3 : dbgB x = true) (hst : (e :: es).all notStar = true) (ha : PAs X ct E (e :: es) g) :
    PSx X ct E (.Raise (some (.Call (.Name x p) (e :: es) [] p2)) none pos) fun σ => lift σ (g σ) fun ds => if ds.length ≤ lim then M.pure (.er c [] σ) else M.stuck := by
  simp only [dbgB, Bool.and_eq_true, Bool.not_eq_true'] at h3
  simp only [List.all_cons, Bool.and_eq_true] at hst
  obtain ⟨Ca, ec, xo⟩ := C.wd.ex x c h1
  obtain ⟨bmB, B, ni, ii, F, q0⟩ := xo.made
  refine PS.imp (ps_raise C.calm C.tk (pmk_ownA F q0 xo.mg xo.kp (raises_own xo.sub xo.ty) (e_gl C.toCok h2) ha h3.1.1 (star_cons hst.1) (star_any hst.2))) fun D σ H ⟨u, σ3, h, S, R, q⟩ => ⟨u, σ3, h, S, R, Ok.lift q S fun ds h1 u1 H1 vs _ l R1 r q1 => ?_⟩
  have r : RVs X.K u1 H1 ds vs := r
  split at q1
  · rename_i hz
    exact ⟨by rw [← r.length, ← lim_eq]; exact hz, c, [], u1, h1, ⟨Ca, ec, rfl, rfl⟩, R1, q1 u1 H1 σ Later.refl R1 (S.up l)⟩
  · exact q1.elim
end
/-! ### suites of handlers: simple statements -/
def okQe : Ex → Expr → Bool
  | .con d, e => match e with
    | .Constant c _ _ => conB d c
    | _ => false
  | .lst .nil, e => match e with
    | .List [] _ => true
    | _ => false
  | .tup .nil, e => match e with
    | .Tuple [] _ _ => true
    | _ => false
  | _, _ => false
def okQ : Stms → List Stmt → Bool
  | .cons (.ret (.yes a)) .nil, l => match l with
    | [.Return (some e) _] => okQe a e
    | _ => false
  | .cons .pass .nil, l => match l with
    | [.Pass _] => true
    | _ => false
  | _, _ => false
theorem ok_qe {X : Cx} {ct : Nat → Option Addr} {E : Et} {P : Par} {a : Ex} {e : Expr} (h : okQe a e = true) : PRw X ct E e (fun σ => ev P a σ) := by
  unfold okQe at h
  split at h
  · split at h
    · exact e_con h
    · cases h
  · split at h
    · exact e_lst a_nil
    · cases h
  · split at h
    · exact e_tup a_nil
    · cases h
  · cases h
theorem ok_q {X : Cx} {ct : Nat → Option Addr} {E : Et} {P : Par} {a : Stms} {l : List Stmt} (h : okQ a l = true) : PSsx X ct E l (fun σ => exs P a σ) := by
  unfold okQ at h
  split at h
  · split at h
    · exact ss_cons (s_ret (ok_qe h)) ss_nil
    · cases h
  · split at h
    · exact ss_cons s_pass ss_nil
    · cases h
  · cases h
def okH (nm : Nm) (sc : Scope) : Hdls → List ExceptHandler → Bool
  | .nil, l => l.isEmpty
  | .cons cs n b r, l => match cs, n, l with
    | [c], none, .ExceptHandler (some (.Name x _)) none (b0 :: suite) _ :: hs => decide (nm.ex x = some c) && gloB sc x && dbgB x && okQ b (b0 :: suite) && okH nm sc r hs
    | _, _, _ => false
section
variable {T : Prog} {nm : Nm} {ct : Nat → Option Addr} {k : Nat} {X : Cx} {N : List Str} {sc : Scope} {fb : Str → Bool} {E : Et}
theorem many_ok (C : Csk T nm ct k X N sc fb E) : ∀ (hs : Hdls) (hds : List ExceptHandler), okH nm sc hs hds = true → ∃ l, HdsOk X hds l ∧ ∀ (D : Ends) (c : Nat) (fs : List (Str × PX.D)) (σ3 : Sg) (u : List Addr) (h : Hs) (H : Hp) (σ : L2.St) (cv : Value) (dx : Option Addr),
    XR X.K ct c fs u H cv dx → HR X.K ct u h H → RS X.K u H σ3 σ → OutOk X.K ct E D u H (exh (par T k) hs c fs σ3 h) → wMany X.K (fun cv dx σ H => ∃ c fs u h, XR X.K ct c fs u H cv dx ∧ HR X.K ct u h H ∧ E c fs u h H σ) D l cv dx σ H
  | .nil, hds, h => by
    simp only [okH, List.isEmpty_iff] at h
    subst h
    exact ⟨[], .nil, fun D c fs σ3 u h H σ cv dx x R S q => ⟨c, fs, u, h, x, R, q u H σ Later.refl R S⟩⟩
  | .cons cs n b r, hds, h => by
    simp only [okH] at h
    split at h
    · simp only [Bool.and_eq_true, decide_eq_true_eq] at h
      obtain ⟨⟨⟨⟨h1, h2⟩, h3⟩, h4⟩, h5⟩ := h
      obtain ⟨l, hl, w⟩ := many_ok C r _ h5
      simp only [dbgB, Bool.and_eq_true, Bool.not_eq_true'] at h3
      obtain ⟨Ca, ec, xo⟩ := C.wd.ex _ _ h1
      refine ⟨(.ref Ca, fun _ _ _ => sX X ct E fun σ => exs (par T k) b σ) :: l, .cons ⟨e_gl C.toCok h2, h3.1.1, .inl xo.mg⟩ (fun a oe cls d pn _ _ => ok_q (X := X.suite a ((a, oe) :: pn)) h4) hl, fun D c fs σ3 u h H σ cv dx x R S q => ?_⟩
      obtain ⟨Cc, e1, rfl, e3⟩ := id x
      simp only [exh, List.any_cons, List.any_nil, Bool.or_false] at q
      refine ⟨_, C.wd.isa c _ Cc Ca _ e1 h1 ec, fun z a _ => ⟨u, σ3, h, S, R, ?_⟩, fun z => w D c fs σ3 u h H σ _ dx x R S ?_⟩
      · have z' : (par T k).isa c _ = true := z
        rw [z', if_pos rfl] at q
        exact q
      · have z' : (par T k).isa c _ = false := z
        rw [z'] at q
        exact q
    · cases h
theorem Csk.tr (C : Csk T nm ct k X N sc fb E) (W : WX) (pn : List (Addr × Obj)) (xe : Value → Shared → Prop) (tk : Takes (X.tr pn xe) W) (po : PassesOwn (model X.prog X.w) X.A X.env xe) : Csk T nm ct k (X.tr pn xe) N sc fb (fun c fs u h H σ => ∀ cv dx, XR X.K ct c fs u H cv dx → W cv dx σ H) :=
  ⟨⟨C.wd, C.hN, C.hs, C.hf, C.calm, C.room, C.nd, tk.imp fun cv dx σ H ⟨c, fs, u, h, x, R, z⟩ => z cv dx x⟩, po, C.stk, C.fr, C.kd⟩
theorem s_try (C : Csk T nm ct k X N sc fb E) {body : List Stmt} {h0 : ExceptHandler} {hds : List ExceptHandler} {hs : Hdls} {gb : Sg → M Out} {pos : Pos} (hh : okH nm sc hs (h0 :: hds) = true)
    (hb : ∀ (E' : Et) (pn : List (Addr × Obj)) (xe : Value → Shared → Prop), Csk T nm ct k (X.tr pn xe) N sc fb E' → PSsx (X.tr pn xe) ct E' body gb) :
    PSx X ct E (.Try body (h0 :: hds) [] [] pos) fun σ => (gb σ).bind fun o => match o with
    | .er c fs σ2 => exh (par T k) hs c fs σ2
    | o => M.pure o := by
  obtain ⟨l, hl, w⟩ := many_ok C hs _ hh
  refine PS.imp (ps_try_many (tb := fun W => sX X ct (fun c fs u h H σ => ∀ cv dx, XR X.K ct c fs u H cv dx → W cv dx σ H) gb) C.stk C.fr C.tk (fun W pn xe tk po => hb _ pn xe (C.tr W pn xe tk po)) hl) fun D σ H ⟨u, σ3, h, S, R, q⟩ => ⟨u, σ3, h, S, R, ?_⟩
  have q : OutOk X.K ct E D u H (((gb σ3).bind fun o => match o with
    | .er c fs σ2 => exh (par T k) hs c fs σ2
    | o => M.pure o) h) := q
  unfold M.bind at q
  cases e : gb σ3 h with
  | ok o h1 =>
    rw [e] at q
    cases o with
    | nx σ4 => exact q
    | rt d => exact q
    | bk σ4 => exact q
    | ct σ4 => exact q
    | er c fs σ4 => exact fun u' H' σ' l' R' S' cv dx x => w D c fs σ4 u' h1 H' σ' cv dx x R' S' (OutOk.later (r := exh (par T k) hs c fs σ4 h1) q l')
  | err c fs h1 => rw [e] at q; exact q.elim
  | stuck => rw [e] at q; exact q.elim
end
end PX

/-! PXv: the check of statements; the induction over statements. -/
namespace PX
open PySem PySem.Spec PyProof.Rows L2
def lcOnly : Ex → Bool
  | .lc _ _ _ | .lc2 _ _ _ _ _ | .fz (.lc _ _ _) | .fz (.lc2 _ _ _ _ _) => true
  | _ => false
def locOk (sc : Scope) (fb : Str → Bool) (x : Str) : Bool := decide (sc.names.lookup x = some .local) || decide (sc.names.lookup x = some .cell) && fb x
mutual
def okS (nm : Nm) (N : List Str) (sc : Scope) (fb : Str → Bool) : Stm → Stmt → Bool
  | .asg t e, s => match s with
    | .Assign [tg] v _ => (match t with
      | .name i => (match tg with
        | .Name x p => decide (N[i]? = some x) && locOk sc fb x && okE nm N sc fb false e v && (!(swB sc x p v) || (decide (sc.names.lookup x = some .local) && lcOnly e))
        | _ => false)
      | .fld a f => (match tg with
        | .Attribute o g _ => decide (f = g) && okE nm N sc fb false a o && okE nm N sc fb false e v
        | _ => false)
      | .sub _ _ => okT nm N sc fb true [] t tg && okE nm N sc fb false e v
      | .tup _ => okT nm N sc fb true (List.range N.length) t tg && notTup v && okE nm N sc fb false e v)
    | _ => false
  | .par is es, s => match is, s with
    | [i, j], .Assign [.Tuple [.Name x px, .Name y py] _ _] (.Tuple [a, b] _ _) _ => decide (N[i]? = some x) && decide (N[j]? = some y) && decide (i ≠ j) && parB sc x y px py a b && okEs nm N sc fb es [a, b]
    | _, _ => false
  | .aug i o e, s => match s with
    | .AugAssign (.Name x _) op v _ => decide (N[i]? = some x) && locOk sc fb x && bopB o op && okE nm N sc fb false e v
    | _ => false
  | .augF a f o e, s => match s with
    | .AugAssign (.Attribute l g _) op v _ => decide (f = g) && bopB o op && okE nm N sc fb false a l && okE nm N sc fb false e v
    | _ => false
  | .exp e, s => match s with
    | .Expr v _ => notComp v && okE nm N sc fb false e v
    | _ => false
  | .ret .no, s => match s with
    | .Return none _ => true
    | _ => false
  | .ret (.yes e), s => match s with
    | .Return (some v) _ => okE nm N sc fb false e v
    | _ => false
  | .ite c a b, s => match s with
    | .If q l r _ => okE nm N sc fb true c q && okSs nm N sc fb a l && okSs nm N sc fb b r
    | _ => false
  | .whl c b, s => match s with
    | .While q l [] _ => okE nm N sc fb true c q && okSs nm N sc fb b l
    | _ => false
  | .for_ t i b, s => match s with
    | .For tg iter l [] _ => notSet iter && okI nm N sc fb tg i iter && okT nm N sc fb true (List.range N.length) t tg && okSs nm N sc fb b l
    | _ => false
  | .brk, s => match s with
    | .Break _ => true
    | _ => false
  | .cont, s => match s with
    | .Continue _ => true
    | _ => false
  | .pass, s => match s with
    | .Pass _ => true
    | _ => false
  | .raise c es, s => match s with
    | .Raise (some (.Call (.Name x _) (e :: l) [] _)) none _ => decide (nm.ex x = some c) && gloB sc x && dbgB x && okEs nm N sc fb es (e :: l)
    | _ => false
  | .try_ b hs, s => match s with
    | .Try l (h0 :: hds) [] [] _ => okSs nm N sc fb b l && okH nm sc hs (h0 :: hds)
    | _ => false
  | .nev, _ => true
  | _, _ => false
def okSs (nm : Nm) (N : List Str) (sc : Scope) (fb : Str → Bool) : Stms → List Stmt → Bool
  | .nil, l => l.isEmpty
  | .cons s r, l => match l with
    | x :: xs => okS nm N sc fb s x && okSs nm N sc fb r xs
    | [] => false
end
section
variable {T : Prog} {nm : Nm} {ct : Nat → Option Addr} {k : Nat}
/-- name = [..], in one go -/
theorem ok_setLc {X : Cx} {N : List Str} {sc : Scope} {fb : Str → Bool} {E : Et} (C : Csk T nm ct k X N sc fb E) {i : Nat} {x : Str} {e : Ex} {v : Expr} {p pos : Pos} (hi : N[i]? = some x) (hl : sc.names.lookup x = some .local) (hsw : swB sc x p v = true) (he : okE nm N sc fb false e v = true)
    (hlc : (∃ a g own, e = .lc a g own) ∨ ∃ a g g2 own own2, e = .lc2 a g g2 own own2) : PS X (.Assign [.Name x p] v pos) (tAsg (tX X ct E (RW X.K) fun σ => ev (par T k) e σ) (gName i)) := by
  have sw : ∀ v, swB sc x p v = true → swapsWith v (some (.Name x p)) pos.line X.env = pure true := fun v h => by rw [sw_name C.hs, h]
  have C' := C.toCok
  rcases hlc with ⟨a, ⟨tg, it, c⟩, own, rfl⟩ | ⟨a, ⟨tg, it, c⟩, ⟨tg2, it2, c2⟩, own, own2, rfl⟩
  · simp only [okE] at he
    split at he
    · simp only [Bool.and_eq_true] at he
      obtain ⟨⟨⟨⟨⟨h0, h1⟩, h2⟩, h3⟩, h4⟩, h5⟩ := he
      exact s_setLc C' h1 h0 (evi_grd (par T k) it) hi hl (sw _ hsw) (ok_i it C' h2) (fun s H D cl fp => ok_t tg (C'.blk _ s H D cl fp).none h3) (fun s H D cl fp => ok_c c (C'.blk _ s H D cl fp) h4) (fun s H D cl fp => (ok_e a (C'.blk _ s H D cl fp) h5).val rfl)
    · cases he
  · simp only [okE] at he
    split at he
    · simp only [Bool.and_eq_true, List.all_eq_true, decide_eq_true_eq] at he
      obtain ⟨⟨⟨⟨⟨⟨⟨⟨⟨⟨h0, h0'⟩, h1⟩, hown⟩, h2⟩, h3⟩, h4⟩, g2⟩, g3⟩, g4⟩, h5⟩ := he
      exact s_setLc2 C' h1 hown h0 h0' (evi_grd (par T k) it) (evi_grd (par T k) it2) hi hl (sw _ hsw) (ok_i it C' h2) (fun s H D cl fp => ok_t tg (C'.blk _ s H D cl fp).none h3) (fun s H D cl fp => ok_c c (C'.blk _ s H D cl fp) h4)
        (fun s H D cl fp => ok_i it2 (C'.blk _ s H D cl fp) g2) (fun s H D cl fp => ok_t tg2 (C'.blk _ s H D cl fp).none g3) (fun s H D cl fp => ok_c c2 (C'.blk _ s H D cl fp) g4) (fun s H D cl fp => (ok_e a (C'.blk _ s H D cl fp) h5).val rfl)
    · cases he
mutual
theorem ok_s : ∀ (a : Stm) {X : Cx} {N : List Str} {sc : Scope} {fb : Str → Bool} {E : Et} {s : Stmt}, Csk T nm ct k X N sc fb E → okS nm N sc fb a s = true → PSx X ct E s (fun σ => ex (par T k) a σ)
  | .asg t e, X, N, sc, fb, E, s, C, h => by
    simp only [okS] at h
    split at h
    · rename_i tg v pos
      cases t with
      | name i =>
        simp only at h
        split at h
        · simp only [Bool.and_eq_true, Bool.or_eq_true, Bool.not_eq_true', decide_eq_true_eq] at h
          obtain ⟨⟨⟨h1, h2⟩, h3⟩, h4⟩ := h
          rename_i x p
          cases hsw : swB sc x p v with
          | false => exact s_asgN C h1 h2 hsw ((ok_e e C.toCok h3).val rfl)
          | true =>
            rcases h4 with h4 | ⟨hl, hlc⟩
            · rw [hsw] at h4; cases h4
            · unfold lcOnly at hlc
              split at hlc
              · exact (s_asgL C (ok_setLc C h1 hl hsw h3 (.inl ⟨_, _, _, rfl⟩))).1
              · exact (s_asgL C (ok_setLc C h1 hl hsw h3 (.inr ⟨_, _, _, _, _, rfl⟩))).1
              · rw [okE, Bool.and_eq_true] at h3
                exact (s_asgL C (ok_setLc C h1 hl hsw h3.2 (.inl ⟨_, _, _, rfl⟩))).2
              · rw [okE, Bool.and_eq_true] at h3
                exact (s_asgL C (ok_setLc C h1 hl hsw h3.2 (.inr ⟨_, _, _, _, _, rfl⟩))).2
              · cases hlc
        · cases h
      | fld a f =>
        simp only at h
        split at h
        · simp only [Bool.and_eq_true, decide_eq_true_eq] at h
          obtain ⟨⟨rfl, h1⟩, h2⟩ := h
          exact s_fld C ((ok_e a C.toCok h1).val rfl) ((ok_e e C.toCok h2).val rfl)
        · cases h
      | sub a b =>
        simp only [Bool.and_eq_true] at h
        have hg := ok_t (.sub a b) C.toCok.none h.1
        have he := (ok_e e C.toCok h.2).val rfl
        have h1 := h.1
        simp only [okT] at h1
        split at h1
        · exact s_asgG he hg (by cases v <;> rfl) (by cases v <;> rfl) rfl
        · cases h1
      | tup ts =>
        simp only [Bool.and_eq_true] at h
        have hg := ok_t (.tup ts) C.toCok.none h.1.1
        have he := (ok_e e C.toCok h.2).val rfl
        have h1 := h.1.1
        have h2 := h.1.2
        simp only [okT] at h1
        split at h1
        · exact s_asgG he hg (by cases v <;> rfl) (by cases v <;> first | rfl | cases h2) rfl
        · cases h1
    · cases h
  | .par is es, X, N, sc, fb, E, s, C, h => by
    simp only [okS] at h
    split at h
    · simp only [Bool.and_eq_true, decide_eq_true_eq] at h
      obtain ⟨⟨⟨⟨h1, h2⟩, h3⟩, h4⟩, h5⟩ := h
      exact s_par C h1 h2 h3 h4 (ok_es es C.toCok h5).run
    · cases h
  | .aug i o e, X, N, sc, fb, E, s, C, h => by
    simp only [okS] at h
    split at h
    · simp only [Bool.and_eq_true, decide_eq_true_eq] at h
      obtain ⟨⟨⟨h1, h2⟩, h3⟩, h4⟩ := h
      exact s_aug C h1 h2 h3 ((ok_e e C.toCok h4).val rfl)
    · cases h
  | .augF a f o e, X, N, sc, fb, E, s, C, h => by
    simp only [okS] at h
    split at h
    · simp only [Bool.and_eq_true, decide_eq_true_eq] at h
      obtain ⟨⟨⟨rfl, h2⟩, h3⟩, h4⟩ := h
      exact s_augF C h2 ((ok_e a C.toCok h3).val rfl) ((ok_e e C.toCok h4).val rfl)
    · cases h
  | .augS a b o e, X, N, sc, fb, E, s, C, h => by
    simp only [okS] at h
    cases h
  | .exp e, X, N, sc, fb, E, s, C, h => by
    simp only [okS] at h
    split at h
    · simp only [Bool.and_eq_true] at h
      exact s_exp h.1 ((ok_e e C.toCok h.2).val rfl)
    · cases h
  | .ret .no, X, N, sc, fb, E, s, C, h => by
    simp only [okS] at h
    split at h
    · exact s_retN
    · cases h
  | .ret (.yes e), X, N, sc, fb, E, s, C, h => by
    simp only [okS] at h
    split at h
    · exact s_ret ((ok_e e C.toCok h).val rfl)
    · cases h
  | .ite c a b, X, N, sc, fb, E, s, C, h => by
    simp only [okS] at h
    split at h
    · simp only [Bool.and_eq_true] at h
      exact s_ite ((ok_e c C.toCok h.1.1).test rfl) (ok_ss a C h.1.2) (ok_ss b C h.2)
    · cases h
  | .whl c b, X, N, sc, fb, E, s, C, h => by
    simp only [okS] at h
    split at h
    · simp only [Bool.and_eq_true] at h
      exact s_while C.own ((ok_e c C.toCok h.1).test rfl) (ok_ss b C h.2)
    · cases h
  | .for_ t i b, X, N, sc, fb, E, s, C, h => by
    simp only [okS] at h
    split at h
    · simp only [Bool.and_eq_true] at h
      exact s_for C h.1.1.1 (evi_grd (par T k) i) (ok_i i C.toCok h.1.1.2) (ok_t t C.toCok.none h.1.2) (ok_ss b C h.2)
    · cases h
  | .brk, X, N, sc, fb, E, s, C, h => by
    simp only [okS] at h
    split at h
    · exact s_brk
    · cases h
  | .cont, X, N, sc, fb, E, s, C, h => by
    simp only [okS] at h
    split at h
    · exact s_cont
    · cases h
  | .pass, X, N, sc, fb, E, s, C, h => by
    simp only [okS] at h
    split at h
    · exact s_pass
    · cases h
  | .raise c es, X, N, sc, fb, E, s, C, h => by
    simp only [okS] at h
    split at h
    · simp only [Bool.and_eq_true, decide_eq_true_eq] at h
      obtain ⟨⟨⟨h1, h2⟩, h3⟩, h4⟩ := h
      have ha := ok_es es C.toCok h4
      exact s_raise C h1 h2 h3 ha.star ha.run
    · cases h
  | .try_ b hs, X, N, sc, fb, E, s, C, h => by
    simp only [okS] at h
    split at h
    · simp only [Bool.and_eq_true] at h
      exact s_try C h.2 fun E' pn xe C' => ok_ss b C' h.1
    · cases h
  | .del a b, X, N, sc, fb, E, s, C, h => by
    simp only [okS] at h
    cases h
  | .nev, X, N, sc, fb, E, s, C, h => s_nev
theorem ok_ss : ∀ (a : Stms) {X : Cx} {N : List Str} {sc : Scope} {fb : Str → Bool} {E : Et} {s : List Stmt}, Csk T nm ct k X N sc fb E → okSs nm N sc fb a s = true → PSsx X ct E s (fun σ => exs (par T k) a σ)
  | .nil, X, N, sc, fb, E, s, C, h => by
    simp only [okSs, List.isEmpty_iff] at h
    subst h
    exact ss_nil
  | .cons a r, X, N, sc, fb, E, s, C, h => by
    simp only [okSs] at h
    split at h
    · simp only [Bool.and_eq_true] at h
      exact ss_cons (ok_s a C h.1) (ok_ss r C h.2)
    · cases h
end
end
end PX

/-! PXw: every def keeps what the evaluator tells of it. -/
namespace PX
open PySem PySem.Spec PyProof.Rows L2
section
variable {K : Fr} {ct : Nat → Option Addr} {u u' w : List Addr} {h h' : Hs} {H H' : Hp}
/-! ### what a value names -/
mutual
theorem RV.refs : ∀ (d : D) (v : V), RV K u H d v → noRef u.length d = true
  | .non, _, _ => rfl
  | .bl _, _, _ => rfl
  | .int _, _, _ => rfl
  | .str _, _, _ => rfl
  | .tup ds, _, r => by cases r with | tup _ rs => exact RVs.refs ds _ rs
  | .lst ds, _, r => by cases r with | lst _ rs => exact RVs.refs ds _ rs
  | .ref n, _, r => by cases r with | ref e => simp only [noRef, decide_eq_true_eq]; exact (List.getElem?_eq_some_iff.mp e).1
theorem RVs.refs : ∀ (ds : List D) (vs : List V), RVs K u H ds vs → noRefs u.length ds = true
  | [], _, _ => rfl
  | d :: ds, _, r => by cases r with | cons a b => simp only [noRefs, RV.refs d _ a, RVs.refs ds _ b, Bool.and_self]
end
mutual
theorem RV.back : ∀ (d : D) (v : V), noRef u.length d = true → RV K (u ++ w) H d v → RV K u H d v
  | .non, _, _, r => by cases r; exact .non
  | .bl b, _, _, r => by cases r; exact .bl b
  | .int b, _, _, r => by cases r; exact .int b
  | .str b, _, _, r => by cases r; exact .str b
  | .tup ds, _, n, r => by cases r with | tup h rs => exact .tup h (RVs.back ds _ n rs)
  | .lst ds, _, n, r => by cases r with | lst h rs => exact .lst h (RVs.back ds _ n rs)
  | .ref m, _, n, r => by
    cases r with
    | ref e =>
      simp only [noRef, decide_eq_true_eq] at n
      rw [List.getElem?_append_left n] at e
      exact .ref e
theorem RVs.back : ∀ (ds : List D) (vs : List V), noRefs u.length ds = true → RVs K (u ++ w) H ds vs → RVs K u H ds vs
  | [], _, _, r => by cases r; exact .nil
  | d :: ds, _, n, r => by
    simp only [noRefs, Bool.and_eq_true] at n
    cases r with
    | cons a b => exact .cons (RV.back d _ n.1 a) (RVs.back ds _ n.2 b)
end
theorem RKs.back {κ : Type} : ∀ {ds : List (κ × D)} {vs : List (κ × V)}, (ds.all fun p => noRef u.length p.2) = true → RKs K (u ++ w) H ds vs → RKs K u H ds vs
  | _, _, _, .nil => .nil
  | _, _, n, .cons a b => by
    simp only [List.all_cons, Bool.and_eq_true] at n
    exact .cons (RV.back _ _ n.1 a) (RKs.back n.2 b)
theorem RKs.refs {κ : Type} : ∀ {ds : List (κ × D)} {vs : List (κ × V)}, RKs K u H ds vs → (ds.all fun p => noRef u.length p.2) = true
  | _, _, .nil => rfl
  | _, _, .cons a b => by
    simp only [List.all_cons, Bool.and_eq_true]
    exact ⟨RV.refs _ _ a, RKs.refs b⟩
theorem OR.back {a : Addr} {o : MO} (n : noRefO u.length o = true) (r : OR K ct (u ++ w) H a o) : OR K ct u H a o := by
  cases o with
  | lst ds => obtain ⟨vs, e, r⟩ := r; exact ⟨vs, e, RVs.back _ _ n r⟩
  | frz ds => obtain ⟨vs, o, e, r⟩ := r; exact ⟨vs, o, e, RVs.back _ _ n r⟩
  | dct ds => obtain ⟨vs, e, r⟩ := r; exact ⟨vs, e, RKs.back n r⟩
  | dtp ds => obtain ⟨vs, e, r⟩ := r; exact ⟨vs, e, RKs.back n r⟩
  | ins c ds => obtain ⟨C, dx, vs, k, e, r⟩ := r; exact ⟨C, dx, vs, k, e, RKs.back n r⟩
theorem OR.refs {a : Addr} {o : MO} (r : OR K ct u H a o) : noRefO u.length o = true := by
  cases o with
  | lst ds => obtain ⟨vs, e, r⟩ := r; exact RVs.refs _ _ r
  | frz ds => obtain ⟨vs, o, e, r⟩ := r; exact RVs.refs _ _ r
  | dct ds => obtain ⟨vs, e, r⟩ := r; exact r.refs
  | dtp ds => obtain ⟨vs, e, r⟩ := r; exact r.refs
  | ins c ds => obtain ⟨C, dx, vs, k, e, r⟩ := r; exact r.refs
/-- what was made on the way is forgotten -/
theorem drop_ok (R : HR K ct u h H) (l : Later u H u' H') (R' : HR K ct u' h' H') (ok : okDrop h h' = true) : Later u H u H' ∧ HR K ct u (h'.take h.length) H' ∧ ∃ w, u' = u ++ w := by
  obtain ⟨w, rfl, hw⟩ := l.pre
  unfold okDrop at ok
  simp only [Bool.and_eq_true, decide_eq_true_eq, List.all_eq_true, List.mem_range, Bool.or_eq_true] at ok
  refine ⟨⟨⟨[], by simp, by simp⟩, l.tup, l.frz, l.frm, l.liv⟩, ⟨by rw [List.length_take, R.len]; omega, R.nd, fun n o a e ha => ?_⟩, w, rfl⟩
  have hn : n < h.length := by rw [← R.len]; exact (List.getElem?_eq_some_iff.mp ha).1
  rw [List.getElem?_take_of_lt hn] at e
  have z := R'.ob n o a e (by rw [List.getElem?_append_left (by rw [R.len]; exact hn)]; exact ha)
  refine OR.back ?_ z
  rcases ok.2 n hn with q | q
  · rw [e] at q
    exact (R.ob n o a q.symm ha).refs
  · rw [e] at q
    rw [R.len]
    exact q
end
/-- a def of the text: what stands in the fragment, its names, its body -/
structure DfOk (K : Fr) (T : Prog) (nm : Nm) (i : Nat) (f : Addr) (fd : FuncData) (ps : List Str) : Prop where
  args : ∀ us : List Value, us.length = ps.length → bindArgs fd ⟨us, []⟩ = pure (ps.zip us)
  is : ∃ (name qual : Str) (params : Arguments) (body : List Stmt) (scope : Scope) (dV kV doc pm cdv ct oc : Value) (an od : Option Addr) (osl : Array (Option Value)) (N : List Str) (fr : Fn),
    fd = PySem.W.fnOf name qual params body scope dV kV doc pm an cdv ct ∧ K.lookup f = some ⟨oc, od, .func fd, osl⟩ ∧ PySem.W.codeIn K cdv qual = true ∧ FnScope N ps scope ∧ T.fns[i]? = some fr ∧ fr.np = ps.length ∧ fr.n = N.length ∧ okSs nm N scope (fun _ => true) fr.body body = true
theorem DfOk.binds {K : Fr} {T : Prog} {nm : Nm} {i : Nat} {f : Addr} {fd : FuncData} {ps : List Str} (h : DfOk K T nm i f fd ps) : Binds K fd ps [] := Binds.all h.args
section
variable {P : Program} {w : World} {K : Fr} {mg : Str → Option Value} {base : Heap} {T : Prog} {nm : Nm} {ct : Nat → Option Addr} {k : Nat}
theorem start_ok {u : List Addr} {H : Hp} {ds : List D} {vs : List V} {N : List Str} (r : RVs K u H ds vs) (hl : ds.length ≤ N.length) : RS K u H (startD N.length ds) (L2.start N vs) := by
  have e := r.length
  unfold startD L2.start
  refine ⟨by simp [e], fun i d h => ?_⟩
  by_cases hi : i < ds.length
  · rw [List.getElem?_append_left (by simpa using hi), List.getElem?_map] at h
    obtain ⟨d', h1, h2⟩ := Option.map_eq_some_iff.mp h
    cases h2
    obtain ⟨v, h3, h4⟩ := r.get h1
    exact ⟨v, by rw [List.getElem?_append_left (by simpa [← e] using hi), List.getElem?_map, h3]; rfl, h4⟩
  · rw [List.getElem?_append_right (by simpa using hi), List.getElem?_replicate] at h
    split at h <;> cases h
theorem finish_ok {u : List Addr} {h : Hs} {H : Hp} {dr : Bool} {r : Res Out} {Q : VK} {E : XK} (R : HR K ct u h H) (q : Pg K ct (fun c fs u' h' H' => ∀ cv dx, XR K ct c fs u' H' cv dx → E cv dx H') (RD K) u H (finish dr h r) Q) :
    OutOk K ct (fun c fs u h H σ => ∀ cv dx, XR K ct c fs u H cv dx → E cv dx H) { nx := fun _ H' => Q .non H', rt := Q } u H r := by
  have fin : ∀ {d : D} {h' : Hs} {u' : List Addr} {H' : Hp} {v : V}, Pg K ct (fun c fs u' h' H' => ∀ cv dx, XR K ct c fs u' H' cv dx → E cv dx H') (RD K) u H (finish.fin dr h d h') Q → Later u H u' H' → HR K ct u' h' H' → RV K u' H' d v → Q v H' := fun {d h' u' H' v} q l R' r => by
    unfold finish.fin at q
    cases dr with
    | false => exact q u' H' v l R' r
    | true =>
      simp only [if_true] at q
      split at q
      · rename_i hd
        simp only [Bool.and_eq_true] at hd
        obtain ⟨l', R2, w, rfl⟩ := drop_ok R l R' hd.1
        exact q u H' v l' R2 (RV.back d v (by rw [R.len]; exact hd.2) r)
      · exact q.elim
  cases r with
  | ok o h' =>
    cases o with
    | nx σ3 => exact fun u' H' σ l R' S' => fin (d := .non) q l R' .non
    | rt d => exact fun u' H' v l R' r => fin q l R' r
    | bk σ3 => exact q.elim
    | ct σ3 => exact q.elim
    | er c fs σ3 =>
      intro u' H' σ l R' S' cv dx x
      unfold finish at q
      cases dr with
      | false => exact q u' H' l R' cv dx x
      | true =>
        simp only [if_true] at q
        split at q
        · rename_i hd
          simp only [Bool.and_eq_true] at hd
          obtain ⟨l', R2, w, rfl⟩ := drop_ok R l R' hd.1
          refine q u H' l' R2 cv dx ?_
          obtain ⟨C, e1, e2, e3⟩ := x
          refine ⟨C, e1, e2, ?_⟩
          cases fs with
          | nil => exact e3
          | cons f fs =>
            obtain ⟨p, vs, e4, e5, e6⟩ := e3
            exact ⟨p, vs, e4, e5, RKs.back (by rw [R.len]; exact hd.2) e6⟩
        · exact q.elim
  | err c fs h' => exact q.elim
  | stuck => exact q.elim
theorem def_ok {i : Nat} {f : Addr} {fd : FuncData} {ps : List Str} (W : Wd P w K mg base T nm ct k) (Df : DfOk K T nm i f fd ps) : FnOk P w K mg base (L2.CX P w) (2 * (k + 1)) f fd ps (spI K ct T (k + 1) i) := by
  obtain ⟨name, qual, params, body, scope, dV, kV, doc, pm, cdv, ct', oc, an, od, osl, N, fr, rfl, lk, hcd, S, hf, np, n, ok⟩ := Df.is
  refine fn_of (k := 2 * k + 1) lk hcd S ?_ ?_
  · rintro vs H Q E ⟨u, h, ds, R, r, q⟩
    rw [← r.length]
    simp only [callI, hf] at q
    split at q
    · rename_i hl
      rw [hl, np]
    · exact q.elim
  · rintro A outer s H vs Q E hr ⟨u, h, ds, R, r, q⟩
    have tk := takes_of (X := cxOf (L2.CX P w) P w K mg base N qual scope f cdv A outer s H E) (E := E) rfl rfl rfl rfl
    have po : PassesOwn (model P w) (cxOf (L2.CX P w) P w K mg base N qual scope f cdv A outer s H E).A (cxOf (L2.CX P w) P w K mg base N qual scope f cdv A outer s H E).env (cxOf (L2.CX P w) P w K mg base N qual scope f cdv A outer s H E).xe := passes_of (X := cxOf (L2.CX P w) P w K mg base N qual scope f cdv A outer s H E) rfl
    have Cc : Csk T nm ct k (cxOf (L2.CX P w) P w K mg base N qual scope f cdv A outer s H E) N scope (fun _ => true) (fun c fs u h H σ => ∀ cv dx, XR K ct c fs u H cv dx → E cv dx H) :=
      ⟨⟨W, rfl, rfl, fun _ _ => rfl, rfl, hr, S.nd, tk.imp fun cv dx σ H ⟨c, fs, u, h, x, R, z⟩ => z cv dx x⟩, po, rfl, rfl, S.kind⟩
    refine ⟨_, ok_ss fr.body Cc ok, ?_⟩
    simp only [callI, hf] at q
    split at q
    · rename_i hl
      refine ⟨u, startD fr.n ds, h, ?_, R, finish_ok R q⟩
      have hN : ds.length ≤ N.length := by
        have := congrArg List.length S.pre
        rw [List.length_take] at this
        omega
      rw [n]
      exact start_ok r hN
    · exact q.elim
/-- what is true behind the top, whatever the level -/
structure Dt (K : Fr) (mg : Str → Option Value) (T : Prog) (nm : Nm) (ct : Nat → Option Addr) : Prop where
  free : ∀ x, nm.free x = true → mg x = none
  gl : ∀ x d, nm.gl x = some d → ∃ uu v, mg x = some uu ∧ RelV v uu ∧ scV d = some v
  tp : ∀ x ds, nm.tp x = some ds → ∃ a vs, mg x = some (.ref a) ∧ (∀ H, SqT K H a vs) ∧ ∀ u H, RVs K u H ds vs
  fn : ∀ x i, nm.fn x = some i → ∃ f fd ps, mg x = some (.ref f) ∧ PySem.W.keepIn K (.ref f) = true ∧ DfOk K T nm i f fd ps
  cl : ∀ x c, nm.cl x = some c → ∃ C i f fd ps, mg x = some (.ref C) ∧ ct c = some C ∧ T.init c = some i ∧ Mk K C f ∧ DfOk K T nm i f fd ps
  ex : ∀ x c, nm.ex x = some c → ∃ C, ct c = some C ∧ XcOk K mg x C
  isa : ∀ c c2 C C2 x, ct c = some C → nm.ex x = some c2 → ct c2 = some C2 → PySem.W.exmOne K (.ref C) (.ref C2) = some (T.isa c c2)
  attr : ∀ c C f, ct c = some C → T.attr c f = true → Cls K C ∧ NoAttr K C f
  meth : ∀ c C m i, ct c = some C → T.meth c m = some i → Cls K C ∧ ∃ f fd ps, Meth K C m f ∧ DfOk K T nm i f fd ps
theorem fn_zero {i : Nat} {f : Addr} {fd : FuncData} {ps : List Str} : FnOk P w K mg base (L2.CX P w) (2 * 0) f fd ps (spI K ct T 0 i) :=
  ⟨fun vs H Q E ⟨_, _, _, _, _, q⟩ => q.elim, fun A outer s H args us vs Q E _ _ _ _ ⟨_, _, _, _, _, q⟩ => q.elim⟩
theorem wd_all (D : Dt K mg T nm ct) : ∀ k : Nat, Wd P w K mg base T nm ct k
  | 0 => ⟨D.free, D.gl, D.tp, fun x i e => let ⟨f, fd, ps, h1, h2, h3⟩ := D.fn x i e; ⟨f, fd, ps, h1, h2, h3.binds, fn_zero⟩,
      fun x c e => let ⟨C, i, f, fd, ps, h1, h2, h3, h4, h5⟩ := D.cl x c e; ⟨C, i, f, fd, ps, h1, h2, h3, h4, h5.binds, fn_zero⟩, D.ex, D.isa, D.attr,
      fun c C m i e1 e2 => let ⟨h1, f, fd, ps, h2, h3⟩ := D.meth c C m i e1 e2; ⟨h1, f, fd, ps, h2, h3.binds, fn_zero⟩⟩
  | k + 1 => ⟨D.free, D.gl, D.tp, fun x i e => let ⟨f, fd, ps, h1, h2, h3⟩ := D.fn x i e; ⟨f, fd, ps, h1, h2, h3.binds, def_ok (wd_all D k) h3⟩,
      fun x c e => let ⟨C, i, f, fd, ps, h1, h2, h3, h4, h5⟩ := D.cl x c e; ⟨C, i, f, fd, ps, h1, h2, h3, h4, h5.binds, def_ok (wd_all D k) h5⟩, D.ex, D.isa, D.attr,
      fun c C m i e1 e2 => let ⟨h1, f, fd, ps, h2, h3⟩ := D.meth c C m i e1 e2; ⟨h1, f, fd, ps, h2, h3.binds, def_ok (wd_all D k) h3⟩⟩
end
end PX

/-! PXx: a program's facts by checks that compute. -/
namespace PX
open PySem PySem.Spec PyProof.Rows L2
theorem zip_has {κ : Type} [BEq κ] [LawfulBEq κ] {β : Type} : ∀ {ks : List κ} {us : List β} {x : κ}, ks.length = us.length → x ∈ ks → ((ks.zip us).lookup x).isNone = false
  | [], _, _, _, m => by cases m
  | k :: ks, [], _, h, _ => by simp at h
  | k :: ks, u :: us, x, h, m => by
    rw [List.zip_cons_cons, List.lookup_cons]
    cases e : x == k with
    | true => rfl
    | false =>
      rcases List.mem_cons.mp m with q | q
      · rw [q] at e; simp at e
      · exact zip_has (by simpa using h) q
theorem fm_congr {α β : Type} {f g : α → Option β} : ∀ {l : List α}, (∀ x ∈ l, f x = g x) → l.filterMap f = l.filterMap g
  | [], _ => rfl
  | a :: l, h => by
    rw [List.filterMap_cons, List.filterMap_cons, h a List.mem_cons_self, fm_congr fun x hx => h x (List.mem_cons_of_mem _ hx)]
theorem zip_back {κ : Type} [BEq κ] [LawfulBEq κ] {β : Type} : ∀ {ks : List κ} {us : List β}, ks.length = us.length → ks.Nodup → (ks.filterMap fun n => ((ks.zip us).lookup n).map (n, ·)) = ks.zip us
  | [], _, _, _ => by simp
  | k :: ks, [], h, _ => by simp at h
  | k :: ks, u :: us, h, nd => by
    obtain ⟨n1, n2⟩ := List.nodup_cons.mp nd
    rw [List.zip_cons_cons, List.filterMap_cons, List.lookup_cons, beq_self_eq_true]
    simp only [Option.map_some]
    congr 1
    refine Eq.trans (fm_congr fun x hx => ?_) (zip_back (ks := ks) (us := us) (by simpa using h) n2)
    rw [List.lookup_cons]
    have : (x == k) = false := by
      cases e : x == k with
      | false => rfl
      | true => rw [beq_iff_eq.mp e] at hx; exact absurd hx n1
    rw [this]
theorem bind_plain {x qual : Str} {as : List Arg} {body : List Stmt} {scope : Scope} {kV doc pm cdv ct : Value} {an : Option Addr} {us : List Value} {kd : List (Option Expr)} (h : us.length = as.length) (nd : (as.map (·.arg)).Nodup) :
    bindArgs (PySem.W.fnOf x qual ⟨[], as, none, [], kd, none, []⟩ body scope .none kV doc pm an cdv ct) ⟨us, []⟩ = pure ((as.map (·.arg)).zip us) := by
  have hl : (as.map (·.arg)).length = us.length := by rw [List.length_map, h]
  have miss : ((as.map (·.arg)).filter fun n => (((as.map (·.arg)).zip us).lookup n).isNone) = [] := by
    rw [List.filter_eq_nil_iff]
    intro n hn
    rw [zip_has hl hn]
    decide
  have back := zip_back hl nd
  have e0 : seqItems? Value.none = pure none := rfl
  have gt : decide (us.length > (as.map (·.arg)).length) = false := by
    rw [decide_eq_false_iff_not]
    omega
  have tk : (as.map (·.arg)).take ((as.map (·.arg)).length) = as.map (·.arg) := List.take_length
  unfold bindArgs
  simp only [PySem.W.fnOf, List.map_nil, List.nil_append, List.append_nil, List.forIn_nil, pure_bind, e0, gt, Bool.false_and, Bool.false_eq_true, if_false, Option.getD_none, List.length_nil, Nat.zero_sub, List.drop_zero, Nat.sub_zero, List.drop_nil, tk, miss, List.isEmpty_nil, Bool.not_true, List.zip_nil_right, List.drop_length, back]
/-- a program: its defs, their slots, the annotated bodies; its classes of instances with their attributes; its classes of exceptions; constants; tuples; names that are free -/
structure Pk where
  defs : List He.DefD
  N : List (List Str)
  fns : List Fn
  ins : List (Str × List Str) := []
  exs : List Str := []
  isa : Nat → Nat → Bool := fun _ _ => false
  con : List (Str × D) := []
  tps : List (Str × List D) := []
  free : List Str := []
  wf : Nat := 100000
def Pk.cls (pk : Pk) (c : Nat) : Option Str := (pk.ins.map (·.1) ++ pk.exs)[c]?
def Pk.ct (pk : Pk) (K : Fr) (c : Nat) : Option Addr := (pk.cls c).map (He.ga K)
def Pk.at_ (pk : Pk) (p : Str × Option Str) : Option Nat := pk.defs.findIdx? fun d => decide (d.at_ = p)
def Pk.me (pk : Pk) (c : Nat) (m : Str) : Option Nat := match pk.ins[c]? with
  | some q => pk.at_ (q.1, some m)
  | none => none
def Pk.T (pk : Pk) : Prog := ⟨pk.fns, pk.me, fun c => pk.me c "__init__", pk.isa, fun c f => match pk.ins[c]? with
  | some q => decide (f ∈ q.2)
  | none => false, pk.wf⟩
def Pk.nm (pk : Pk) : Nm := ⟨fun x => pk.at_ (x, none), fun x => pk.ins.findIdx? fun q => decide (q.1 = x), fun x => (pk.exs.findIdx? fun q => decide (q = x)).map (· + pk.ins.length), fun x => pk.con.lookup x, fun x => pk.tps.lookup x, fun x => decide (x ∈ pk.free)⟩
/-! ### the syntax -/
def fnScB (N P : List Str) (sc : Scope) : Bool := decide (sc.kind = .function) && !sc.isCoroutine && !sc.isGenerator && decide N.Nodup && decide (N.take P.length = P) && (P.all fun x => decide (sc.names.lookup x = some .local) || decide (sc.names.lookup x = some .cell)) && (sc.names.all fun y => decide (y.2 ≠ .free))
theorem fnScB_ok {N P : List Str} {sc : Scope} (h : fnScB N P sc = true) : FnScope N P sc := by
  unfold fnScB at h
  simp only [Bool.and_eq_true, decide_eq_true_eq, Bool.not_eq_true', List.all_eq_true, Bool.or_eq_true] at h
  obtain ⟨⟨⟨⟨⟨⟨h1, h2⟩, h3⟩, h4⟩, h5⟩, h6⟩, h7⟩ := h
  exact ⟨h1, h2, h3, h4, h5, h6, h7⟩
def chkDef (nm : Nm) (d : He.DefD) (N : List Str) (fr : Fn) : Bool := match d.params with
  | ⟨[], as, none, [], _, none, []⟩ => d.dfl.isEmpty && d.kwd.isEmpty && decide (as.map (·.arg)).Nodup && fnScB N (as.map (·.arg)) d.scope && decide (fr.np = as.length) && decide (fr.n = N.length) && okSs nm N d.scope (fun _ => true) fr.body d.body
  | _ => false
def chkAll (nm : Nm) : List He.DefD → List (List Str) → List Fn → Bool
  | [], [], [] => true
  | d :: ds, N :: Ns, f :: fs => chkDef nm d N f && chkAll nm ds Ns fs
  | _, _, _ => false
theorem chkAll_at {nm : Nm} : ∀ {ds : List He.DefD} {Ns : List (List Str)} {fs : List Fn} {i : Nat} {d : He.DefD}, chkAll nm ds Ns fs = true → ds[i]? = some d → ∃ N f, fs[i]? = some f ∧ chkDef nm d N f = true
  | [], _, _, i, d, _, e => by simp at e
  | _ :: _, [], _, i, d, h, e => by cases h
  | _ :: _, _ :: _, [], i, d, h, e => by cases h
  | a :: ds, N :: Ns, f :: fs, 0, d, h, e => by
    simp only [chkAll, Bool.and_eq_true] at h
    simp at e
    subst e
    exact ⟨N, f, rfl, h.1⟩
  | a :: ds, N :: Ns, f :: fs, i + 1, d, h, e => by
    simp only [chkAll, Bool.and_eq_true] at h
    obtain ⟨N', f', h1, h2⟩ := chkAll_at (i := i) (d := d) h.2 (by simpa using e)
    exact ⟨N', f', by simpa using h1, h2⟩
/-! ### the heap -/
def conK (K : Fr) (q : Str × D) : Bool := match scV q.2, PySem.W.nsIn K mainGlobals q.1 with
  | some v, some (some u) => He.relB v u
  | _, _ => false
def dvD : D → He.Dv
  | .non => .non
  | .bl b => .bl b
  | .int i => .int i
  | .str s => .str s
  | _ => .non
def flat : D → Bool
  | .non | .bl _ | .int _ | .str _ => true
  | _ => false
def pkB (pk : Pk) (K : Fr) : Bool :=
  (pk.defs.all fun d => match d.at_.2 with
    | none => (He.Fa.glo d.at_.1).ok K
    | some m => (He.Fa.meth d.at_.1 m).ok K) &&
  (pk.ins.all fun q => (He.Fa.glo q.1).ok K && (He.Fa.cls q.1).ok K && (He.Fa.mkr q.1).ok K && (pk.at_ (q.1, some "__init__")).isSome && q.2.all fun f => (He.Fa.noat q.1 f).ok K) &&
  (pk.exs.all fun x => (He.Fa.glo x).ok K && (He.Fa.exc x).ok K) &&
  ((List.range (pk.ins.length + pk.exs.length)).all fun c => (List.range pk.exs.length).all fun j => match pk.cls c, pk.exs[j]? with
    | some x, some y => (He.Fa.exm x y (pk.isa c (j + pk.ins.length))).ok K
    | _, _ => true) &&
  (pk.free.all fun x => (He.Fa.free x).ok K) &&
  (pk.con.all (conK K)) &&
  (pk.tps.all fun q => (He.Fa.glo q.1).ok K && q.2.all flat && He.tupB K q.1 (q.2.map dvD))
theorem flat_ok {K : Fr} {u : List Addr} {H : Hp} : ∀ {ds : List D}, ds.all flat = true → RVs K u H ds ((ds.map dvD).map (He.Dv.v K))
  | [], _ => .nil
  | d :: ds, h => by
    simp only [List.all_cons, Bool.and_eq_true] at h
    refine .cons ?_ (flat_ok h.2)
    have h1 := h.1
    cases d <;> first
      | exact .non
      | exact .bl _
      | exact .int _
      | exact .str _
      | cases h1
section
variable {pk : Pk} {K : Fr} {h : Heap} {mg : Str → Option Value} {fa : List He.Fa}
theorem lookup_in {β : Type} : ∀ {l : List (Str × β)} {x : Str} {b : β}, l.lookup x = some b → (x, b) ∈ l
  | [], _, _, e => by cases e
  | (y, c) :: l, x, b, e => by
    rw [List.lookup_cons] at e
    cases q : x == y with
    | true =>
      rw [q] at e
      cases e
      rw [beq_iff_eq.mp q]
      exact List.mem_cons_self
    | false =>
      rw [q] at e
      exact List.mem_cons_of_mem _ (lookup_in e)
theorem find_at {α : Type} {p : α → Bool} {l : List α} {i : Nat} (e : l.findIdx? p = some i) : ∃ a, l[i]? = some a ∧ p a = true := by
  obtain ⟨h1, h2, _⟩ := List.findIdx?_eq_some_iff_getElem.mp e
  exact ⟨l[i], List.getElem?_eq_getElem h1, h2⟩
/-- a def by its number -/
theorem df_of (ok : chkAll pk.nm pk.defs pk.N pk.fns = true) (c : He.SaysD fa pk.defs K) {i : Nat} {d : He.DefD} (e : pk.defs[i]? = some d) : ∃ fd, DfOk K pk.T pk.nm i (He.fAd K d.at_) fd (d.params.args.map (·.arg)) ∧ PySem.W.keepIn K (.ref (He.fAd K d.at_)) = true := by
  obtain ⟨N, fr, e1, e2⟩ := chkAll_at ok e
  obtain ⟨fd, F⟩ := c.def_ i e
  unfold chkDef at e2
  split at e2
  · rename_i as kd hp
    simp only [Bool.and_eq_true, decide_eq_true_eq, List.isEmpty_iff] at e2
    obtain ⟨⟨⟨⟨⟨⟨h1, h2⟩, h3⟩, h4⟩, h5⟩, h6⟩, h7⟩ := e2
    obtain ⟨oc, od, dV, kV, doc, pm, an, cdv, ct', osl, rfl, lk, hcd, hD, hK⟩ := F.ex
    rw [hp] at lk
    have hdV : dV = .none := by
      rcases hD with ⟨_, z⟩ | ⟨z, _⟩
      · exact z
      · exact absurd (by simp [He.DefD.dvs, h1]) z
    subst hdV
    rw [hp]
    refine ⟨_, ⟨?_, d.name, d.qual, _, d.body, d.scope, .none, kV, doc, pm, cdv, ct', oc, an, od, osl, N, fr, rfl, lk, hcd, fnScB_ok h4, e1, by rw [h5, List.length_map], h6, h7⟩, F.kp⟩
    exact fun us hl => bind_plain (by rw [hl, List.length_map]) h3
  · cases e2
theorem dt_of (ok : chkAll pk.nm pk.defs pk.N pk.fns = true) (sy : He.SaysD fa pk.defs K) (more : pkB pk K = true) (X : K.In h) (G : h.Ns mainGlobals mg) : Dt K mg pk.T pk.nm (pk.ct K) := by
  unfold pkB at more
  simp only [Bool.and_eq_true, List.all_eq_true] at more
  obtain ⟨⟨⟨⟨⟨⟨m1, m2⟩, m3⟩, m4⟩, m5⟩, m6⟩, m7⟩ := more
  have atD : ∀ {p : Str × Option Str} {i : Nat}, pk.at_ p = some i → ∃ d, pk.defs[i]? = some d ∧ d.at_ = p := fun {p i} e => by
    obtain ⟨d, h1, h2⟩ := find_at e
    exact ⟨d, h1, of_decide_eq_true h2⟩
  have insCt : ∀ {c : Nat} {q : Str × List Str}, pk.ins[c]? = some q → pk.ct K c = some (He.ga K q.1) := fun {c q} e => by
    have hc := (List.getElem?_eq_some_iff.mp e).1
    unfold Pk.ct Pk.cls
    rw [List.getElem?_append_left (by simpa using hc), List.getElem?_map, e]
    rfl
  have exCt : ∀ {j : Nat} {x : Str}, pk.exs[j]? = some x → pk.ct K (j + pk.ins.length) = some (He.ga K x) := fun {j x} e => by
    unfold Pk.ct Pk.cls
    rw [List.getElem?_append_right (by simp), List.length_map, Nat.add_sub_cancel, e]
    rfl
  have methOk : ∀ {c : Nat} {m : Str} {i : Nat} {q : Str × List Str}, pk.ins[c]? = some q → pk.me c m = some i → ∃ fd ps, (He.Fa.meth q.1 m).ok K = true ∧ DfOk K pk.T pk.nm i (He.ma K (He.ga K q.1) m) fd ps := fun {c m i q} e1 e2 => by
    unfold Pk.me at e2
    rw [e1] at e2
    obtain ⟨d, h1, h2⟩ := atD e2
    obtain ⟨fd, h3, _⟩ := df_of ok sy h1
    have h4 := m1 d (List.mem_of_getElem? h1)
    rw [h2] at h4 h3
    exact ⟨fd, _, h4, h3⟩
  refine ⟨fun x e => ?_, fun x d e => ?_, fun x ds e => ?_, fun x i e => ?_, fun x cc e => ?_, fun x cc e => ?_, fun cc c2 C C2 x e1 e2 e3 => ?_, fun cc C f e1 e2 => ?_, fun cc C m i e1 e2 => ?_⟩
  · have e : decide (x ∈ pk.free) = true := e
    exact He.free_ok X G (m5 x (of_decide_eq_true e))
  · have e2 := m6 _ (lookup_in e)
    unfold conK at e2
    simp only at e2
    split at e2
    · rename_i v u h1 h2
      exact ⟨u, v, PySem.W.mg_of X G h2, He.relB_ok e2, h1⟩
    · cases e2
  · have e2 := m7 _ (lookup_in e)
    obtain ⟨⟨h1, h2⟩, h3⟩ := e2
    exact ⟨He.ga K x, _, He.glo_ok X G h1, fun H => He.tupB_ok h3 H, fun u H => flat_ok (by rw [List.all_eq_true]; exact h2)⟩
  · obtain ⟨d, h1, h2⟩ := atD e
    obtain ⟨fd, h3, h5⟩ := df_of ok sy h1
    have h4 := m1 d (List.mem_of_getElem? h1)
    rw [h2] at h4 h3 h5
    exact ⟨He.ga K x, fd, _, He.glo_ok X G h4, h5, h3⟩
  · obtain ⟨q, h1, h2⟩ := find_at (show pk.ins.findIdx? (fun q => decide (q.1 = x)) = some cc from e)
    have h2 := of_decide_eq_true h2
    subst h2
    obtain ⟨⟨⟨⟨h3, h4⟩, h5⟩, hi⟩, h6⟩ := m2 q (List.mem_of_getElem? h1)
    have M := He.mkr_ok h5
    cases ei : pk.me cc "__init__" with
    | none =>
      unfold Pk.me at ei
      rw [h1] at ei
      simp only at ei
      rw [ei] at hi
      cases hi
    | some i =>
      obtain ⟨fd, ps, _, h8⟩ := methOk h1 ei
      exact ⟨He.ga K q.1, i, _, fd, ps, He.glo_ok X G h3, insCt h1, ei, M, h8⟩
  · have e : (pk.exs.findIdx? fun q => decide (q = x)).map (· + pk.ins.length) = some cc := e
    obtain ⟨j, h1, rfl⟩ := Option.map_eq_some_iff.mp e
    obtain ⟨y, h2, h3⟩ := find_at h1
    have h3 := of_decide_eq_true h3
    subst h3
    obtain ⟨h4, h5⟩ := m3 y (List.mem_of_getElem? h2)
    obtain ⟨q1, q2, q3, q4⟩ := He.exc_ok h5
    exact ⟨He.ga K y, exCt h2, He.glo_ok X G h4, q2, q3, q4, ⟨_, _, _, _, PySem.F.excBase_ValueError, q1⟩⟩
  · have e2 : (pk.exs.findIdx? fun q => decide (q = x)).map (· + pk.ins.length) = some c2 := e2
    obtain ⟨j, h1, rfl⟩ := Option.map_eq_some_iff.mp e2
    obtain ⟨y, h2, _⟩ := find_at h1
    have hj := (List.getElem?_eq_some_iff.mp h2).1
    rw [exCt h2] at e3
    cases e3
    unfold Pk.ct at e1
    cases ec : pk.cls cc with
    | none => rw [ec] at e1; cases e1
    | some z =>
      rw [ec] at e1
      cases e1
      have hc : cc < pk.ins.length + pk.exs.length := by
        have := (List.getElem?_eq_some_iff.mp ec).1
        simpa using this
      have q := m4 cc (List.mem_range.mpr hc) j (List.mem_range.mpr hj)
      rw [ec, h2] at q
      exact He.exm_ok q
  · have e2 : (match pk.ins[cc]? with
      | some q => decide (f ∈ q.2)
      | none => false) = true := e2
    cases ei : pk.ins[cc]? with
    | none => rw [ei] at e2; cases e2
    | some q =>
      rw [ei] at e2
      rw [insCt ei] at e1
      cases e1
      obtain ⟨⟨⟨⟨h3, h4⟩, h5⟩, hi⟩, h6⟩ := m2 q (List.mem_of_getElem? ei)
      exact ⟨He.cls_ok h4, He.noat_ok (h6 f (of_decide_eq_true e2))⟩
  · have e2 : pk.me cc m = some i := e2
    cases ei : pk.ins[cc]? with
    | none => unfold Pk.me at e2; rw [ei] at e2; cases e2
    | some q =>
      rw [insCt ei] at e1
      cases e1
      obtain ⟨⟨⟨⟨h3, h4⟩, h5⟩, hi⟩, h6⟩ := m2 q (List.mem_of_getElem? ei)
      obtain ⟨fd, ps, h7, h8⟩ := methOk ei e2
      exact ⟨He.cls_ok h4, _, fd, ps, He.meth_ok h7, h8⟩
end
end PX

/-! PXy: a law's end. -/
namespace PX
open PySem PySem.Spec PyProof.Rows L2
/-- a law, by what the evaluator tells of its def -/
theorem walk_px {l : PySem.W.OpenLaw} {n kk iL : Nat} {q : Program} {loose : List Str} {XP : (Str → Option Value) → Heap → Prop} {YP : World → Heap → Prop} {d : DefRec} {x : Str} {pk : Pk} {fa : List He.Fa} {dl : He.DefD}
    (hn : l.most = some n) (hn2 : n ≤ sizeLine) (hdf : d.params.defaults = []) (hr : Room (2 * (kk + 1)) callerA) (hY : ∀ w h, YP w h → ∃ K : Fr, K.In h ∧ He.SaysD fa pk.defs K ∧ pkB pk K = true)
    (hok : chkAll pk.nm pk.defs pk.N pk.fns = true) (hdl : pk.defs[iL]? = some dl) (hat : dl.at_ = (d.name, none)) (hx : dl.params.args.map (·.arg) = [x])
    (sem : ∀ ns : List Int, ns.length ≤ n → ∃ h', callI pk.T (kk + 1) iL [.lst (ns.map D.int)] [] = .ok (.bl true) h') :
    PySem.W.WalkO q loose XP YP l.row.toRowW d [] (fun f vs => PySem.call f vs) := by
  refine Att.attach_call hn hdf fun w s₀ s₁ mg mb fa o pm cd doc a vs ns G Y ho hd hcd hmg hobj hints hlen hg => ?_
  obtain ⟨K, KX, sy, more⟩ := hY w _ Y
  have Dd := dt_of hok sy more KX G.T.g
  obtain ⟨fd, Df, kp⟩ := df_of hok sy hdl
  have glo : mg d.name = some (.ref (He.ga K d.name)) := by
    unfold pkB at more
    simp only [Bool.and_eq_true, List.all_eq_true] at more
    have z := more.1.1.1.1.1.1 dl (List.mem_of_getElem? hdl)
    rw [hat] at z
    exact He.glo_ok KX G.T.g z
  have e := hmg.symm.trans glo
  have efa : fa = He.fAd K dl.at_ := by
    rw [hat]
    exact Value.ref.inj (Option.some.inj e)
  rw [hx] at Df
  rw [← efa] at Df
  refine law_call (CX := L2.CX l.prog w) (sp := spI K (pk.ct K) pk.T (kk + 1) iL) KX G.T.g G.T.b G.T.builtins G.T.nolimit hg hobj hints (Nat.le_trans hlen hn2) hr (fun base _ _ => def_ok (wd_all Dd kk) Df) (fun s u => .of_eq (Df.args [u] rfl)) (fun H hO hS => ?_) fun H e s' ⟨_, _, _, _, _, _, _, _, _, _, _, _, z⟩ => z
  have hq : SqF K H a (ns.map V.int) := by
    rcases hS with (h | ⟨o, h⟩) | ⟨o, its, m, hk, h1, h2, h3, h4, h5⟩
    · rcases hO a with z | ⟨o, xs, z⟩
      · rw [z] at h; cases h
      · rw [z] at h; cases h
    · exact .inl ⟨o, h⟩
    · have e1 := KX a o hk
      rw [hobj] at e1
      cases e1
      cases h3
      exact .inr ⟨vs, 0, hk, by rw [List.size_toArray] at h4; exact h4, h5⟩
  obtain ⟨h', es⟩ := sem ns hlen
  refine ⟨[], [], [.lst (ns.map D.int)], ⟨rfl, List.nodup_nil, fun n o a e _ => by simp at e⟩, .cons (.lst hq (RVs.ofInts ns)) .nil, ?_⟩
  rw [es]
  intro u' H' v l R r
  have r : RV K u' H' (.bl true) v := r
  cases r
  rfl
/-! ### the defs of a top -/
def methsOf (c : Str) : List Stmt → List He.DefD
  | [] => []
  | .FunctionDef n a b _ _ _ sc _ _ _ :: r => ⟨(c, some n), n, c ++ "." ++ n, a, b, sc, [], []⟩ :: methsOf c r
  | _ :: r => methsOf c r
def defsOf : List Stmt → List He.DefD
  | [] => []
  | .FunctionDef n a b _ _ _ sc _ _ _ :: r => ⟨(n, none), n, n, a, b, sc, [], []⟩ :: defsOf r
  | .ClassDef n _ _ b _ _ _ _ _ _ _ :: r => methsOf n b ++ defsOf r
  | _ :: r => defsOf r
end PX

/-! PXz: rules for running the evaluator by simp. -/
namespace PX
open PySem L2
section
variable {α β γ : Type}
@[simp ↓] theorem bind_ret (d : D) (f : Raw → M β) : (ret d).bind f = f (.val d) := rfl
@[simp ↓] theorem bind_pureM (a : α) (f : α → M β) : (M.pure a).bind f = f a := rfl
@[simp ↓] theorem bind_stuckM (f : α → M β) : (M.stuck : M α).bind f = M.stuck := rfl
@[simp] theorem bind_iteM {c : Prop} [Decidable c] (m n : M α) (f : α → M β) : (if c then m else n).bind f = if c then m.bind f else n.bind f := by split <;> rfl
@[simp ↓] theorem bind_bindM (m : M α) (f : α → M β) (g : β → M γ) : (m.bind f).bind g = m.bind fun a => (f a).bind g := M.bind_assoc m f g
@[simp ↓] theorem toD_valM (d : D) : toD (.val d) = M.pure d := rfl
@[simp ↓] theorem lift_pureM (σ : Sg) (a : α) (k : α → M Out) : lift σ (M.pure a) k = k a := rfl
@[simp ↓] theorem lift_stuckM (σ : Sg) (k : α → M Out) : lift σ (M.stuck : M α) k = M.stuck := rfl
@[simp] theorem lift_iteM {c : Prop} [Decidable c] (σ : Sg) (m n : M α) (k : α → M Out) : lift σ (if c then m else n) k = if c then lift σ m k else lift σ n k := by split <;> rfl
@[simp ↓] theorem calm_pureM (a : α) (k : α → M β) : calm (M.pure a) k = k a := rfl
@[simp ↓] theorem calm_stuckM (k : α → M β) : calm (M.stuck : M α) k = M.stuck := rfl
theorem varD_at {σ : Sg} {i : Nat} {d : D} (h : σ[i]? = some (some d)) : varD σ i = ret d := by
  funext s
  simp only [varD, h]
@[simp ↓] theorem varD_zero (d : D) (σ : Sg) : varD (some d :: σ) 0 = ret d := rfl
@[simp ↓] theorem varD_one (a : Option D) (d : D) (σ : Sg) : varD (a :: some d :: σ) 1 = ret d := rfl
@[simp ↓] theorem varD_two (a b : Option D) (d : D) (σ : Sg) : varD (a :: b :: some d :: σ) 2 = ret d := rfl
@[simp ↓] theorem varD_three (a b c : Option D) (d : D) (σ : Sg) : varD (a :: b :: c :: some d :: σ) 3 = ret d := rfl
@[simp ↓] theorem varD_four (a b c e : Option D) (d : D) (σ : Sg) : varD (a :: b :: c :: e :: some d :: σ) 4 = ret d := rfl
@[simp ↓] theorem varD_five (a b c e f : Option D) (d : D) (σ : Sg) : varD (a :: b :: c :: e :: f :: some d :: σ) 5 = ret d := rfl
@[simp ↓] theorem varD_six (a b c e f g : Option D) (d : D) (σ : Sg) : varD (a :: b :: c :: e :: f :: g :: some d :: σ) 6 = ret d := rfl
@[simp ↓] theorem putN_zero (d : D) (a : Option D) (σ : Sg) : putN 0 d (a :: σ) = M.pure (some d :: σ) := rfl
@[simp ↓] theorem putN_one (d : D) (a b : Option D) (σ : Sg) : putN 1 d (a :: b :: σ) = M.pure (a :: some d :: σ) := rfl
@[simp ↓] theorem putN_two (d : D) (a b c : Option D) (σ : Sg) : putN 2 d (a :: b :: c :: σ) = M.pure (a :: b :: some d :: σ) := rfl
@[simp ↓] theorem putN_three (d : D) (a b c e : Option D) (σ : Sg) : putN 3 d (a :: b :: c :: e :: σ) = M.pure (a :: b :: c :: some d :: σ) := rfl
@[simp ↓] theorem putN_four (d : D) (a b c e f : Option D) (σ : Sg) : putN 4 d (a :: b :: c :: e :: f :: σ) = M.pure (a :: b :: c :: e :: some d :: σ) := rfl
@[simp ↓] theorem putN_five (d : D) (a b c e f g : Option D) (σ : Sg) : putN 5 d (a :: b :: c :: e :: f :: g :: σ) = M.pure (a :: b :: c :: e :: f :: some d :: σ) := rfl
/-! ### operations on known values -/
@[simp ↓] theorem tru_bl (b : Bool) : truM (.bl b) = M.pure b := rfl
@[simp ↓] theorem tru_non : truM .non = M.pure false := rfl
@[simp ↓] theorem tru_int (i : Int) : truM (.int i) = M.pure (i != 0) := rfl
@[simp ↓] theorem tru_tup (xs : List D) : truM (.tup xs) = M.pure !xs.isEmpty := rfl
@[simp ↓] theorem tru_lst (xs : List D) : truM (.lst xs) = M.pure !xs.isEmpty := rfl
theorem tru_str {s : Str} (h : s.length ≤ lim) : truM (.str s) = M.pure ((s.length : Int) != 0) := by
  funext x
  simp only [truM, truth, h, if_true, M.pure]
@[simp ↓] theorem len_tup (xs : List D) : biD .len [.tup xs] = ret (.int xs.length) := rfl
@[simp ↓] theorem len_lst (xs : List D) : biD .len [.lst xs] = ret (.int xs.length) := rfl
theorem len_str {s : Str} (h : s.length ≤ lim) : biD .len [.str s] = ret (.int s.length) := by
  funext x
  simp only [biD, lenD, h, if_true, ret]
@[simp ↓] theorem cmp_eq_int (i j : Int) : cmpM .eq (.int i) (.int j) = ret (.bl (decide (i = j))) := rfl
@[simp ↓] theorem cmp_ne_int (i j : Int) : cmpM .ne (.int i) (.int j) = ret (.bl !decide (i = j)) := rfl
@[simp ↓] theorem cmp_eq_str (i j : Str) : cmpM .eq (.str i) (.str j) = ret (.bl (decide (i = j))) := rfl
@[simp ↓] theorem cmp_ne_str (i j : Str) : cmpM .ne (.str i) (.str j) = ret (.bl !decide (i = j)) := rfl
@[simp ↓] theorem cmp_lt_int (i j : Int) : cmpM .lt (.int i) (.int j) = ret (.bl (decide (i < j))) := rfl
@[simp ↓] theorem cmp_le_int (i j : Int) : cmpM .le (.int i) (.int j) = ret (.bl (decide (i ≤ j))) := rfl
@[simp ↓] theorem cmp_gt_int (i j : Int) : cmpM .gt (.int i) (.int j) = ret (.bl (decide (j < i))) := rfl
@[simp ↓] theorem cmp_ge_int (i j : Int) : cmpM .ge (.int i) (.int j) = ret (.bl (decide (j ≤ i))) := rfl
@[simp ↓] theorem bin_add_int (i j : Int) : binD .add (.int i) (.int j) = ret (.int (i + j)) := rfl
@[simp ↓] theorem bin_sub_int (i j : Int) : binD .sub (.int i) (.int j) = ret (.int (i - j)) := rfl
@[simp ↓] theorem abs_int (i : Int) : biD .abs [.int i] = ret (.int (i.natAbs : Int)) := rfl
@[simp ↓] theorem int_int (i : Int) : biD .int [.int i] = ret (.int i) := rfl
@[simp] theorem bin_mod_int {i j : Int} (h : 0 < j) : binD .mod (.int i) (.int j) = ret (.int (i % j)) := by
  funext x
  simp only [binD, h, if_true, ret]
@[simp ↓] theorem ty_NoneType_int : isTy "NoneType" .int = false := by decide
@[simp ↓] theorem ty_NoneType_bool : isTy "NoneType" .bool = false := by decide
@[simp ↓] theorem ty_NoneType_str : isTy "NoneType" .str = false := by decide
@[simp ↓] theorem ty_NoneType_tuple : isTy "NoneType" .tuple = false := by decide
@[simp ↓] theorem ty_NoneType_list : isTy "NoneType" .list = false := by decide
@[simp ↓] theorem ty_NoneType_dict : isTy "NoneType" .dict = false := by decide
@[simp ↓] theorem ty_bool_int : isTy "bool" .int = true := by decide
@[simp ↓] theorem ty_bool_bool : isTy "bool" .bool = true := by decide
@[simp ↓] theorem ty_bool_str : isTy "bool" .str = false := by decide
@[simp ↓] theorem ty_bool_tuple : isTy "bool" .tuple = false := by decide
@[simp ↓] theorem ty_bool_list : isTy "bool" .list = false := by decide
@[simp ↓] theorem ty_bool_dict : isTy "bool" .dict = false := by decide
@[simp ↓] theorem ty_int_int : isTy "int" .int = true := by decide
@[simp ↓] theorem ty_int_bool : isTy "int" .bool = false := by decide
@[simp ↓] theorem ty_int_str : isTy "int" .str = false := by decide
@[simp ↓] theorem ty_int_tuple : isTy "int" .tuple = false := by decide
@[simp ↓] theorem ty_int_list : isTy "int" .list = false := by decide
@[simp ↓] theorem ty_int_dict : isTy "int" .dict = false := by decide
@[simp ↓] theorem ty_str_int : isTy "str" .int = false := by decide
@[simp ↓] theorem ty_str_bool : isTy "str" .bool = false := by decide
@[simp ↓] theorem ty_str_str : isTy "str" .str = true := by decide
@[simp ↓] theorem ty_str_tuple : isTy "str" .tuple = false := by decide
@[simp ↓] theorem ty_str_list : isTy "str" .list = false := by decide
@[simp ↓] theorem ty_str_dict : isTy "str" .dict = false := by decide
@[simp ↓] theorem ty_tuple_int : isTy "tuple" .int = false := by decide
@[simp ↓] theorem ty_tuple_bool : isTy "tuple" .bool = false := by decide
@[simp ↓] theorem ty_tuple_str : isTy "tuple" .str = false := by decide
@[simp ↓] theorem ty_tuple_tuple : isTy "tuple" .tuple = true := by decide
@[simp ↓] theorem ty_tuple_list : isTy "tuple" .list = false := by decide
@[simp ↓] theorem ty_tuple_dict : isTy "tuple" .dict = false := by decide
@[simp ↓] theorem ty_list_int : isTy "list" .int = false := by decide
@[simp ↓] theorem ty_list_bool : isTy "list" .bool = false := by decide
@[simp ↓] theorem ty_list_str : isTy "list" .str = false := by decide
@[simp ↓] theorem ty_list_tuple : isTy "list" .tuple = false := by decide
@[simp ↓] theorem ty_list_list : isTy "list" .list = true := by decide
@[simp ↓] theorem ty_list_dict : isTy "list" .dict = false := by decide
@[simp ↓] theorem ty_dict_int : isTy "dict" .int = false := by decide
@[simp ↓] theorem ty_dict_bool : isTy "dict" .bool = false := by decide
@[simp ↓] theorem ty_dict_str : isTy "dict" .str = false := by decide
@[simp ↓] theorem ty_dict_tuple : isTy "dict" .tuple = false := by decide
@[simp ↓] theorem ty_dict_list : isTy "dict" .list = false := by decide
@[simp ↓] theorem ty_dict_dict : isTy "dict" .dict = true := by decide
@[simp ↓] theorem rawT_bl (b : Bool) : rawT (.val (.bl b)) = b := rfl
@[simp ↓] theorem isi_int (i : Int) (ts : List Ity) : isiM (.int i) ts = ret (.bl (ts.any fun t => isTy "int" t)) := rfl
@[simp ↓] theorem isi_bl (i : Bool) (ts : List Ity) : isiM (.bl i) ts = ret (.bl (ts.any fun t => isTy "bool" t)) := rfl
@[simp ↓] theorem isi_str (i : Str) (ts : List Ity) : isiM (.str i) ts = ret (.bl (ts.any fun t => isTy "str" t)) := rfl
@[simp ↓] theorem isi_non (ts : List Ity) : isiM .non ts = ret (.bl (ts.any fun t => isTy "NoneType" t)) := rfl
@[simp ↓] theorem isi_tup (xs : List D) (ts : List Ity) : isiM (.tup xs) ts = ret (.bl (ts.any fun t => isTy "tuple" t)) := rfl
@[simp ↓] theorem isi_lst (xs : List D) (ts : List Ity) : isiM (.lst xs) ts = ret (.bl (ts.any fun t => isTy "list" t)) := rfl
/-! ### comprehensions, loops -/
/-- each turn gives an item and leaves the store -/
theorem compI_map {turn : D → M (Option D)} {f : D → D} : ∀ {ds acc : List D} {h : Hs}, (∀ x ∈ ds, turn x h = .ok (some (f x)) h) → acc.length + ds.length ≤ lim → compI turn [] ds acc h = .ok (acc ++ ds.map f) h
  | [], acc, h, _, _ => by simp [compI]
  | x :: xs, acc, h, ht, hl => by
    simp only [List.length_cons] at hl
    simp only [compI]
    rw [ht x List.mem_cons_self]
    have hg : grdOk h [] = true ∧ acc.length < lim := ⟨rfl, by omega⟩
    simp only [hg, and_self, if_true]
    rw [compI_map (fun y hy => ht y (List.mem_cons_of_mem _ hy)) (by simp; omega)]
    simp
/-- each turn gives an item or none -/
theorem compI_filter {turn : D → M (Option D)} {f : D → D} {p : D → Bool} : ∀ {ds acc : List D} {h : Hs}, (∀ x ∈ ds, turn x h = .ok (if p x then some (f x) else none) h) → acc.length + ds.length ≤ lim → compI turn [] ds acc h = .ok (acc ++ (ds.filter p).map f) h
  | [], acc, h, _, _ => by simp [compI]
  | x :: xs, acc, h, ht, hl => by
    simp only [List.length_cons] at hl
    simp only [compI]
    rw [ht x List.mem_cons_self]
    cases hp : p x with
    | true =>
      have hg : grdOk h [] = true ∧ acc.length < lim := ⟨rfl, by omega⟩
      simp only [hg, and_self, if_true]
      rw [compI_filter (fun y hy => ht y (List.mem_cons_of_mem _ hy)) (by simp; omega)]
      simp [hp]
    | false =>
      have hg : grdOk h [] = true := rfl
      simp only [hg, if_true, Bool.false_eq_true, if_false]
      rw [compI_filter (fun y hy => ht y (List.mem_cons_of_mem _ hy)) (by omega)]
      simp [hp]
/-- each turn gives several items and leaves the store -/
theorem compsI_flat {turn : D → List D → M (List D)} {f : D → List D} : ∀ {ds acc : List D} {h : Hs}, (∀ x ∈ ds, ∀ acc : List D, acc.length + (f x).length ≤ lim → turn x acc h = .ok (acc ++ f x) h) → acc.length + (ds.map fun x => (f x).length).sum ≤ lim → compsI turn [] ds acc h = .ok (acc ++ ds.flatMap f) h
  | [], acc, h, _, _ => by simp [compsI]
  | x :: xs, acc, h, ht, hl => by
    simp only [List.map_cons, List.sum_cons] at hl
    simp only [compsI]
    rw [ht x List.mem_cons_self acc (by omega)]
    have hg : grdOk h [] = true := rfl
    simp only [hg, if_true]
    rw [compsI_flat (fun y hy => ht y (List.mem_cons_of_mem _ hy)) (by simp; omega)]
    simp
/-- a comprehension that keeps a state of the store: f x s gives the item and the next state -/
theorem compI_state {σt : Type} {turn : D → M (Option D)} {st : σt → Hs} {f : D → σt → D × σt} : ∀ {ds acc : List D} {s : σt}, (∀ x ∈ ds, ∀ s, turn x (st s) = .ok (some (f x s).1) (st (f x s).2)) → acc.length + ds.length ≤ lim →
    compI turn [] ds acc (st s) = .ok (acc ++ (ds.foldl (fun p x => (p.1 ++ [(f x p.2).1], (f x p.2).2)) (([] : List D), s)).1) (st (ds.foldl (fun p x => (p.1 ++ [(f x p.2).1], (f x p.2).2)) (([] : List D), s)).2)
  | [], acc, s, _, _ => by simp [compI]
  | x :: xs, acc, s, ht, hl => by
    simp only [List.length_cons] at hl
    simp only [compI]
    rw [ht x List.mem_cons_self]
    have hg : grdOk (st (f x s).2) [] = true ∧ acc.length < lim := ⟨rfl, by omega⟩
    simp only [hg, and_self, if_true]
    rw [compI_state (fun y hy => ht y (List.mem_cons_of_mem _ hy)) (by simp; omega)]
    have key : ∀ (l : List D) (q : List D) (s : σt), (l.foldl (fun p x => (p.1 ++ [(f x p.2).1], (f x p.2).2)) (q, s)).1 = q ++ (l.foldl (fun p x => (p.1 ++ [(f x p.2).1], (f x p.2).2)) (([] : List D), s)).1 ∧ (l.foldl (fun p x => (p.1 ++ [(f x p.2).1], (f x p.2).2)) (q, s)).2 = (l.foldl (fun p x => (p.1 ++ [(f x p.2).1], (f x p.2).2)) (([] : List D), s)).2 := by
      intro l
      induction l with
      | nil => intro q s; simp
      | cons y l ih =>
        intro q s
        simp only [List.foldl_cons]
        have i1 := ih (q ++ [(f y s).1]) (f y s).2
        have i2 := ih ([] ++ [(f y s).1]) (f y s).2
        exact ⟨by rw [i1.1, i2.1]; simp, by rw [i1.2, i2.2]⟩
    have k := key xs [(f x s).1] (f x s).2
    simp only [List.foldl_cons, List.nil_append]
    rw [k.1, k.2]
    simp
/-! ### texts -/
/-- a sign as a text -/
abbrev sgn (c : Nat) : D := .str ⟨#[c]⟩
theorem idx_str0 {z : Str} {c : Nat} {r : List Nat} (hz : z.length ≤ lim) (e : z.cps.toList = c :: r) : idxD (.str z) (.int 0) = ret (sgn c) := by
  funext x
  have a0 : atI (c :: r) 0 = some c := by simp [atI, ixN]
  simp only [idxD, hz, if_true, e, a0]
  try rfl
@[simp ↓] theorem in_sgn (c : Nat) (z : Str) : cmpM .inn (sgn c) (.str z) = ret (.bl (decide (c ∈ z.cps.toList))) := rfl
@[simp ↓] theorem nin_sgn (c : Nat) (z : Str) : cmpM .nin (sgn c) (.str z) = ret (.bl !decide (c ∈ z.cps.toList)) := rfl
theorem walk_str {z : Str} (hz : z.length ≤ lim) : walkM (.str z) = M.pure (z.cps.toList.map sgn, []) := by
  funext x
  simp only [walkM, walkG, hz, if_true]
@[simp ↓] theorem walk_tup (xs : List D) : walkM (.tup xs) = M.pure (xs, []) := rfl
@[simp ↓] theorem walk_lst (xs : List D) : walkM (.lst xs) = M.pure (xs, []) := rfl
theorem bools_map {α : Type} (p : α → Bool) : ∀ xs : List α, boolsD (xs.map fun x => D.bl (p x)) = some (xs.map p)
  | [] => rfl
  | x :: xs => by simp [boolsD, bools_map p xs]
theorem all_map {α : Type} (p : α → Bool) (xs : List α) : biD .all [.lst (xs.map fun x => D.bl (p x))] = ret (.bl (xs.all p)) := by
  funext x
  simp [biD, asList, bools_map, ret, Function.comp_def]
theorem any_map {α : Type} (p : α → Bool) (xs : List α) : biD .any [.lst (xs.map fun x => D.bl (p x))] = ret (.bl (xs.any p)) := by
  funext x
  simp [biD, asList, bools_map, ret, Function.comp_def]
/-- a comprehension without a state, run -/
theorem compI_run {turn : D → M (Option D)} {f : D → D} {ds : List D} {h : Hs} {β : Type} {k : List D → M β} (ht : ∀ x ∈ ds, turn x h = .ok (some (f x)) h) (hl : ds.length ≤ lim) : (compI turn [] ds []).bind k h = k (ds.map f) h := by
  unfold M.bind
  rw [compI_map ht (by simpa using hl)]
  rfl
/-! ### text literals -/
@[simp] theorem ofString_inj (a b : String) : (Str.ofString a = Str.ofString b) ↔ a = b := by
  constructor
  · intro h
    have h1 : (Str.ofString a).cps.toList = (Str.ofString b).cps.toList := by rw [h]
    have h2 : a.toList.map Char.toNat = b.toList.map Char.toNat := by
      rw [Str.ofString_eq_toList, Str.ofString_eq_toList] at h1
      exact h1
    have key : ∀ l m : List Char, l.map Char.toNat = m.map Char.toNat → l = m := fun l => by
      induction l with
      | nil => intro m e; cases m with
        | nil => rfl
        | cons _ _ => cases e
      | cons x l ih =>
        intro m e
        cases m with
        | nil => cases e
        | cons y m =>
          simp only [List.map_cons, List.cons.injEq] at e
          rw [ih m e.2, Char.ext (UInt32.toNat_inj.mp e.1)]
    exact String.ext (key _ _ h2)
  · intro h
    rw [h]
/-! ### at a store -/
theorem bind_run {m : M α} {f : α → M β} {h h' : Hs} {a : α} (e : m h = .ok a h') : M.bind m f h = f a h' := by
  unfold M.bind
  rw [e]
theorem bind_fail {m : M α} {f : α → M β} {h h' : Hs} {c : Nat} {fs : List (Str × D)} (e : m h = .err c fs h') : M.bind m f h = .err c fs h' := by
  unfold M.bind
  rw [e]
theorem lift_run {σ : Sg} {m : M α} {k : α → M Out} {h h' : Hs} {a : α} (e : m h = .ok a h') : lift σ m k h = k a h' := by
  unfold lift
  rw [e]
theorem lift_fail {σ : Sg} {m : M α} {k : α → M Out} {h h' : Hs} {c : Nat} {fs : List (Str × D)} (e : m h = .err c fs h') : lift σ m k h = .ok (.er c fs σ) h' := by
  unfold lift
  rw [e]
theorem calm_run {m : M α} {k : α → M β} {h h' : Hs} {a : α} (e : m h = .ok a h') : calm m k h = k a h' := by
  unfold calm
  rw [e]
end
end PX

/-! PYa: what holds behind a run (weakest preconditions of the evaluator). -/
namespace PX
open PySem L2
section
variable {α β γ : Type}
/-- no exception -/
@[reducible] def NoE : Nat → List (Str × D) → Hs → Prop := fun _ _ _ => False
/-- what is asked behind a run (classes, so that simp does not look into them) -/
class Pst (α : Type) where
  q : α → Hs → Prop
class Exc where
  e : Nat → List (Str × D) → Hs → Prop
def WpI {α : Type} (m : M α) (h : Hs) [P : Pst α] [X : Exc] : Prop := match m h with
  | .ok a h' => P.q a h'
  | .err c fs h' => X.e c fs h'
  | .stuck => False
@[reducible] def Wp (m : M α) (h : Hs) (Q : α → Hs → Prop) (E : Nat → List (Str × D) → Hs → Prop := NoE) : Prop := @WpI α m h ⟨Q⟩ ⟨E⟩
variable {Q : α → Hs → Prop} {R : β → Hs → Prop} {E : Nat → List (Str × D) → Hs → Prop} {h h' : Hs}
theorem Wp.mono {m : M α} {Q' : α → Hs → Prop} (w : Wp m h Q) (f : ∀ a h', Q a h' → Q' a h') : Wp m h Q' E := by
  unfold Wp WpI at w ⊢
  cases e : m h with
  | ok a h' => rw [e] at w; exact f a h' w
  | err c fs h' => rw [e] at w; exact w.elim
  | stuck => rw [e] at w; exact w
theorem Wp.monoE {m : M α} {Q' : α → Hs → Prop} {E' : Nat → List (Str × D) → Hs → Prop} (w : Wp m h Q E) (f : ∀ a h', Q a h' → Q' a h') (g : ∀ c fs h', E c fs h' → E' c fs h') : Wp m h Q' E' := by
  unfold Wp WpI at w ⊢
  cases e : m h with
  | ok a h' => rw [e] at w; exact f a h' w
  | err c fs h' => rw [e] at w; exact g c fs h' w
  | stuck => rw [e] at w; exact w
theorem Wp.of_eq {m : M α} {a : α} (e : m h = .ok a h') (q : Q a h') : Wp m h Q E := by
  unfold Wp WpI
  rw [e]
  exact q
theorem Wp.get {m : M α} (w : Wp m h Q) : ∃ a h', m h = .ok a h' ∧ Q a h' := by
  unfold Wp WpI at w
  cases e : m h with
  | ok a h' => rw [e] at w; exact ⟨a, h', rfl, w⟩
  | err c fs h' => rw [e] at w; exact w.elim
  | stuck => rw [e] at w; exact w.elim
@[simp ↓] theorem wp_pure (a : α) : Wp (M.pure a) h Q E ↔ Q a h := Iff.rfl
@[simp ↓] theorem wp_ret (d : D) {Q : Raw → Hs → Prop} : Wp (ret d) h Q E ↔ Q (.val d) h := Iff.rfl
@[simp ↓] theorem wp_retN (xs : List D) {Q : Raw → Hs → Prop} : Wp (retN xs) h Q E ↔ Q (.new xs) h := Iff.rfl
@[simp ↓] theorem wp_stuck : Wp (M.stuck : M α) h Q E ↔ False := Iff.rfl
@[simp ↓] theorem wp_bind (m : M α) (f : α → M β) : Wp (m.bind f) h R E ↔ Wp m h (fun a h' => Wp (f a) h' R E) E := by
  unfold Wp WpI M.bind
  cases m h <;> exact Iff.rfl
@[simp ↓] theorem wp_lift (σ : Sg) (m : M α) (k : α → M Out) {R : Out → Hs → Prop} : Wp (lift σ m k) h R E ↔ Wp m h (fun a h' => Wp (k a) h' R E) fun c fs h' => R (.er c fs σ) h' := by
  unfold Wp WpI lift
  cases m h <;> exact Iff.rfl
@[simp ↓] theorem wp_calm (m : M α) (k : α → M β) : Wp (calm m k) h R E ↔ Wp m h (fun a h' => Wp (k a) h' R E) := by
  unfold Wp WpI calm
  cases m h <;> exact Iff.rfl
@[simp] theorem wp_ite {c : Prop} [Decidable c] (m n : M α) : Wp (if c then m else n) h Q E ↔ (c → Wp m h Q E) ∧ (¬ c → Wp n h Q E) := by
  by_cases hc : c <;> simp [hc]
@[simp ↓] theorem wp_toD_val (d : D) {Q : D → Hs → Prop} : Wp (toD (.val d)) h Q E ↔ Q d h := Iff.rfl
@[simp ↓] theorem wp_toD_new (xs : List D) {Q : D → Hs → Prop} : Wp (toD (.new xs)) h Q E ↔ Q (.ref h.length) (h ++ [.lst xs]) := Iff.rfl
theorem wp_varD {σ : Sg} {i : Nat} {d : D} {Q : Raw → Hs → Prop} (e : σ[i]? = some (some d)) : Wp (varD σ i) h Q E ↔ Q (.val d) h := by
  rw [varD_at e]; rfl
/-- what a def's end asks -/
def Fin (dr : Bool) (h : Hs) (Q : D → Hs → Prop) (E : Nat → List (Str × D) → Hs → Prop) : Out → Hs → Prop
  | .nx _, h' => fin dr h Q .non h'
  | .rt d, h' => fin dr h Q d h'
  | .er c fs _, h' => if dr then (okDrop h h' = true ∧ (fs.all fun p => noRef h.length p.2) = true) ∧ E c fs (h'.take h.length) else E c fs h'
  | _, _ => False
where fin (dr : Bool) (h : Hs) (Q : D → Hs → Prop) (d : D) (h' : Hs) : Prop := if dr then (okDrop h h' = true ∧ noRef h.length d = true) ∧ Q d (h'.take h.length) else Q d h'
theorem wp_call {T : Prog} {k i n np : Nat} {b : Stms} {dr : Bool} {ds : List D} {Q : D → Hs → Prop} (hT : T.fns[i]? = some ⟨n, np, b, dr⟩) (hl : ds.length = np) (w : Wp (exs ⟨callI T k, T.meth, T.init, T.isa, T.attr, T.wf⟩ b (startD n ds)) h (Fin dr h Q E)) : Wp (callI T (k + 1) i ds) h Q E := by
  unfold Wp WpI at w ⊢
  simp only [callI, hT, hl, if_true]
  cases e : exs ⟨callI T k, T.meth, T.init, T.isa, T.attr, T.wf⟩ b (startD n ds) h with
  | ok o h' =>
    rw [e] at w
    cases dr with
    | false => cases o <;> simp only [Fin, Fin.fin, finish, finish.fin, Bool.false_eq_true, if_false] at w ⊢ <;> exact w
    | true =>
      cases o with
      | nx σ =>
        simp only [Fin, Fin.fin, finish, finish.fin, if_true] at w ⊢
        rw [if_pos (by rw [w.1.1, w.1.2]; rfl)]
        exact w.2
      | rt d =>
        simp only [Fin, Fin.fin, finish, finish.fin, if_true] at w ⊢
        rw [if_pos (by rw [w.1.1, w.1.2]; rfl)]
        exact w.2
      | er c fs σ =>
        simp only [Fin, finish, if_true] at w ⊢
        rw [if_pos (by rw [w.1.1, w.1.2]; rfl)]
        exact w.2
      | bk σ => exact w.elim
      | ct σ => exact w.elim
  | err c fs h' => rw [e] at w; exact w.elim
  | stuck => rw [e] at w; exact w
@[simp ↓] theorem fin_nx (σ : Sg) {Q : D → Hs → Prop} : Fin false h Q E (.nx σ) h' ↔ Q .non h' := Iff.rfl
@[simp ↓] theorem fin_rt (d : D) {Q : D → Hs → Prop} : Fin false h Q E (.rt d) h' ↔ Q d h' := Iff.rfl
@[simp ↓] theorem fin_er (c : Nat) (fs : List (Str × D)) (σ : Sg) {Q : D → Hs → Prop} : Fin false h Q E (.er c fs σ) h' ↔ E c fs h' := Iff.rfl
@[simp ↓] theorem fin_bk (dr : Bool) (σ : Sg) {Q : D → Hs → Prop} : Fin dr h Q E (.bk σ) h' ↔ False := Iff.rfl
@[simp ↓] theorem fin_ct (dr : Bool) (σ : Sg) {Q : D → Hs → Prop} : Fin dr h Q E (.ct σ) h' ↔ False := Iff.rfl
theorem okDrop_app (h e : Hs) : okDrop h (h ++ e) = true := by
  unfold okDrop
  simp only [List.length_append, Nat.le_add_right, decide_true, Bool.true_and, List.all_eq_true, List.mem_range, Bool.or_eq_true, decide_eq_true_eq]
  intro i hi
  left
  rw [List.getElem?_append_left hi]
/-- a drop: what is behind the old length is forgotten -/
theorem okDrop_of {h h1 : Hs} (e : Hs) (hl : h1.length = h.length) (ho : ∀ i, i < h.length → h1[i]? = h[i]? ∨ ∃ o, h1[i]? = some o ∧ noRefO h.length o = true) : okDrop h (h1 ++ e) = true := by
  unfold okDrop
  simp only [List.length_append, hl, Nat.le_add_right, decide_true, Bool.true_and, List.all_eq_true, List.mem_range, Bool.or_eq_true, decide_eq_true_eq]
  intro i hi
  rw [List.getElem?_append_left (by omega)]
  rcases ho i hi with z | ⟨o, z, n⟩
  · exact .inl z
  · right
    rw [z]
    exact n
theorem fin_rt_drop {d : D} {Q : D → Hs → Prop} (e : Hs) (n : noRef h.length d = true) (q : Q d h) : Fin true h Q E (.rt d) (h ++ e) := by
  refine ⟨⟨okDrop_app h e, n⟩, ?_⟩
  rw [List.take_left]
  exact q
theorem fin_rt_drop0 {d : D} {Q : D → Hs → Prop} (n : noRef h.length d = true) (q : Q d h) : Fin true h Q E (.rt d) h := by
  have := fin_rt_drop (E := E) (h := h) (Q := Q) [] n q
  rwa [List.append_nil] at this
theorem fin_rt_drop1 {d : D} {h1 : Hs} {Q : D → Hs → Prop} (e : Hs) (hl : h1.length = h.length) (ho : ∀ i, i < h.length → h1[i]? = h[i]? ∨ ∃ o, h1[i]? = some o ∧ noRefO h.length o = true) (n : noRef h.length d = true) (q : Q d h1) : Fin true h Q E (.rt d) (h1 ++ e) := by
  refine ⟨⟨okDrop_of e hl ho, n⟩, ?_⟩
  rw [← hl, List.take_left]
  exact q
/-! ### loops, comprehensions -/
/-- a comprehension with an invariant of what is done -/
theorem wp_compI {turn : D → M (Option D)} (I : List D → List D → Hs → Prop) : ∀ {ds acc : List D} {pre : List D} {h : Hs} {Q : List D → Hs → Prop} {E}, I pre acc h → acc.length + ds.length ≤ lim →
    (∀ p x q acc h, pre ++ ds = p ++ x :: q → I p acc h → Wp (turn x) h fun o h' => match o with
      | none => I (p ++ [x]) acc h'
      | some y => I (p ++ [x]) (acc ++ [y]) h') →
    (∀ acc h, I (pre ++ ds) acc h → Q acc h) → Wp (compI turn [] ds acc) h Q E
  | [], acc, pre, h, Q, E, i, _, _, hQ => by
    have := hQ acc h (by rw [List.append_nil]; exact i)
    simpa [compI, Wp, WpI] using this
  | x :: xs, acc, pre, h, Q, E, i, hl, ht, hQ => by
    simp only [List.length_cons] at hl
    obtain ⟨o, h', e, q⟩ := (ht pre x xs acc h rfl i).get
    have hg : grdOk h' [] = true := rfl
    have hd : acc.length < lim := by omega
    unfold Wp WpI
    simp only [compI]
    rw [e]
    cases o with
    | none =>
      simp only [hg, if_true]
      refine wp_compI I (pre := pre ++ [x]) q (by omega) (fun p y z acc h hp hi => ht p y z acc h (by simpa using hp) hi) fun acc h hi => hQ acc h (by simpa using hi)
    | some y =>
      simp only [hg, hd, and_self, if_true]
      refine wp_compI I (pre := pre ++ [x]) q (by simp; omega) (fun p y z acc h hp hi => ht p y z acc h (by simpa using hp) hi) fun acc h hi => hQ acc h (by simpa using hi)
/-- a loop with an invariant of the items done -/
theorem wp_loopI {body : D → Sg → M Out} (I : List D → Sg → Hs → Prop) : ∀ {ds pre : List D} {σ : Sg} {h : Hs} {Q : Out → Hs → Prop} {E}, I pre σ h →
    (∀ p x q σ h, pre ++ ds = p ++ x :: q → I p σ h → Wp (body x σ) h fun o h' => match o with
      | .nx σ' => I (p ++ [x]) σ' h'
      | .ct σ' => I (p ++ [x]) σ' h'
      | .bk σ' => Q (.nx σ') h'
      | o => Q o h') →
    (∀ σ h, I (pre ++ ds) σ h → Q (.nx σ) h) → Wp (loopI body [] ds σ) h Q E
  | [], pre, σ, h, Q, E, i, _, hQ => by
    have := hQ σ h (by rw [List.append_nil]; exact i)
    simpa [loopI, Wp, WpI] using this
  | x :: xs, pre, σ, h, Q, E, i, ht, hQ => by
    obtain ⟨o, h', e, q⟩ := (ht pre x xs σ h rfl i).get
    have hg : grdOk h' [] = true := rfl
    unfold Wp WpI
    simp only [loopI]
    rw [e]
    cases o with
    | nx σ' =>
      simp only [hg, if_true]
      exact wp_loopI I (pre := pre ++ [x]) q (fun p y z σ h hp hi => ht p y z σ h (by simpa using hp) hi) fun σ h hi => hQ σ h (by simpa using hi)
    | ct σ' =>
      simp only [hg, if_true]
      exact wp_loopI I (pre := pre ++ [x]) q (fun p y z σ h hp hi => ht p y z σ h (by simpa using hp) hi) fun σ h hi => hQ σ h (by simpa using hi)
    | bk σ' => exact q
    | rt d => exact q
    | er c fs σ' => exact q
/-- while, with a measure -/
theorem wp_whileI {c : Sg → M Bool} {body : Sg → M Out} (I : Nat → Sg → Hs → Prop) : ∀ {k n : Nat} {σ : Sg} {h : Hs} {Q : Out → Hs → Prop} {E}, n < k → I n σ h →
    (∀ n σ h, I n σ h → Wp (c σ) h fun b h' => if b then Wp (body σ) h' fun o h' => match o with
      | .nx σ' => ∃ m, m < n ∧ I m σ' h'
      | .ct σ' => ∃ m, m < n ∧ I m σ' h'
      | .bk σ' => Q (.nx σ') h'
      | o => Q o h'
      else Q (.nx σ) h') → Wp (whileI c body k σ) h Q E
  | 0, n, _, _, _, _, hk, _, _ => by omega
  | k + 1, n, σ, h, Q, E, hk, i, ht => by
    obtain ⟨b, h1, e, q⟩ := (ht n σ h i).get
    unfold Wp WpI
    simp only [whileI, lift]
    rw [e]
    cases b with
    | false => exact q
    | true =>
      simp only [if_true] at q ⊢
      obtain ⟨o, h2, e2, q2⟩ := q.get
      rw [e2]
      cases o with
      | nx σ' =>
        obtain ⟨m, hm, im⟩ := q2
        exact wp_whileI I (by omega) im ht
      | ct σ' =>
        obtain ⟨m, hm, im⟩ := q2
        exact wp_whileI I (by omega) im ht
      | bk σ' => exact q2
      | rt d => exact q2
      | er c fs σ' => exact q2
end
end PX

/-! PYb: equations of the evaluator as simp rules; the drawn streams of the laws. -/
namespace PX
open PySem L2
@[simp] theorem num_le_lim {n : Nat} (h : n ≤ 16777216) : (n ≤ lim) = True := by simp [lim, h]
@[simp ↓] theorem list_lst (xs : List D) : biD .list [.lst xs] = retN xs := rfl
@[simp ↓] theorem list_tup (xs : List D) : biD .list [.tup xs] = retN xs := rfl
@[simp ↓] theorem tuple_lst (xs : List D) : biD .tuple [.lst xs] = ret (.tup xs) := rfl
@[simp ↓] theorem tuple_tup (xs : List D) : biD .tuple [.tup xs] = ret (.tup xs) := rfl
theorem wp_callP {T : Prog} {k i n np : Nat} {b : Stms} {dr : Bool} {ds : List D} {h : Hs} {E : Nat → List (Str × D) → Hs → Prop} {Q : D → Hs → Prop} (hT : T.fns[i]? = some ⟨n, np, b, dr⟩) (hl : ds.length = np) (w : Wp (exs (par T k) b (startD n ds)) h (Fin dr h Q E)) : Wp (callI T (k + 1) i ds) h Q E := wp_call hT hl w
section
variable {P : Par} {σ : Sg}
@[simp ↓] theorem ev_var (i : Nat) : ev P (.var i) σ = varD σ i := by simp only [ev]
@[simp ↓] theorem ev_con (d : D) : ev P (.con d) σ = PX.ret d := by simp only [ev]
@[simp ↓] theorem ev_glo (x : Str) (d : D) : ev P (.glo x d) σ = PX.ret d := by simp only [ev]
@[simp ↓] theorem ev_bin (o : Bop) (a b : Ex) : ev P (.bin o a b) σ = (V3 (ev P a σ)).bind fun x => (V3 (ev P b σ)).bind fun y => binD o x y := by simp only [ev]
def negM : D → M Raw
  | .int i => PX.ret (.int (-i))
  | _ => M.stuck
@[simp ↓] theorem negM_int (i : Int) : negM (.int i) = PX.ret (.int (-i)) := rfl
@[simp ↓] theorem ev_neg (a : Ex) : ev P (.neg a) σ = (V3 (ev P a σ)).bind negM := by
  simp only [ev]
  congr 1
@[simp ↓] theorem ev_cmp (o : Cop) (a b : Ex) : ev P (.cmp o a b) σ = (V3 (ev P a σ)).bind fun x => (V3 (ev P b σ)).bind fun y => cmpM o x y := by simp only [ev]
@[simp ↓] theorem ev_inT (a : Ex) (x : Str) (ds : List D) (neg : Bool) : ev P (.inT a x ds neg) σ = (V3 (ev P a σ)).bind fun x => if isFlat x && ds.all isFlat then PX.ret (.bl (if neg then !(ds.any fun y => eqD y x) else ds.any fun y => eqD y x)) else M.stuck := by simp only [ev]
@[simp ↓] theorem ev_chn (o1 o2 : Cop) (a b c : Ex) : ev P (.chn o1 o2 a b c) σ = (V3 (ev P a σ)).bind fun x => (V3 (ev P b σ)).bind fun y => (cmpM o1 x y).bind fun r => if rawT r then (V3 (ev P c σ)).bind fun z => cmpM o2 y z else PX.ret (.bl false) := by simp only [ev]
@[simp ↓] theorem ev_and (a b : Ex) : ev P (.and a b) σ = (V3 (ev P a σ)).bind fun x => (truM x).bind fun c => if c then (V3 (ev P b σ)).bind PX.ret else PX.ret x := by simp only [ev]
@[simp ↓] theorem ev_or (a b : Ex) : ev P (.or a b) σ = (V3 (ev P a σ)).bind fun x => (truM x).bind fun c => if c then PX.ret x else (V3 (ev P b σ)).bind PX.ret := by simp only [ev]
@[simp ↓] theorem ev_not (a : Ex) : ev P (.not a) σ = (V3 (ev P a σ)).bind fun x => (truM x).bind fun c => PX.ret (.bl (!c)) := by simp only [ev]
@[simp ↓] theorem ev_ite (c a b : Ex) : ev P (.ite c a b) σ = ((V3 (ev P c σ)).bind truM).bind fun c => if c then (V3 (ev P a σ)).bind PX.ret else (V3 (ev P b σ)).bind PX.ret := by simp only [ev]
@[simp ↓] theorem ev_tup (es : Exs) : ev P (.tup es) σ = (evs P es σ).bind fun xs => if xs.length ≤ lim then PX.ret (.tup xs) else M.stuck := by simp only [ev]
@[simp ↓] theorem ev_lst (es : Exs) : ev P (.lst es) σ = (evs P es σ).bind fun xs => if xs.length ≤ lim then retN xs else M.stuck := by simp only [ev]
@[simp ↓] theorem ev_dic (es : Exs) : ev P (.dic es) σ = (evs P es σ).bind fun xs => if xs.length ≤ 30 then dictM xs [] else M.stuck := by simp only [ev]
@[simp ↓] theorem ev_dic0 : ev P .dic0 σ = alloc (.dtp []) := by simp only [ev]
@[simp ↓] theorem ev_idx (a b : Ex) : ev P (.idx a b) σ = (V3 (ev P a σ)).bind fun x => (V3 (ev P b σ)).bind fun y => idxD x y := by simp only [ev]
@[simp ↓] theorem ev_sl (a : Ex) (lo hi : Op) : ev P (.sl a lo hi) σ = (V3 (ev P a σ)).bind fun x => (evo P lo σ).bind fun l => (evo P hi σ).bind fun u => slD x l u := by simp only [ev]
@[simp ↓] theorem ev_att (a : Ex) (f : Str) : ev P (.att a f) σ = (V3 (ev P a σ)).bind fun x => attD P.attr x f := by simp only [ev]
@[simp ↓] theorem ev_call (f : Nat) (es : Exs) : ev P (.call f es) σ = (evs P es σ).bind fun xs => (P.call f xs).bind PX.ret := by simp only [ev]
@[simp ↓] theorem ev_meth (m : Str) (a : Ex) (es : Exs) : ev P (.meth m a es) σ = (V3 (ev P a σ)).bind fun x => (recvM P m x).bind fun i => (evs P es σ).bind fun xs => (P.call i (x :: xs)).bind PX.ret := by simp only [ev]
@[simp ↓] theorem ev_new (c : Nat) (es : Exs) : ev P (.new c es) σ = (evs P es σ).bind fun xs => newM P c xs := by simp only [ev]
@[simp ↓] theorem ev_bi (b : Bi) (es : Exs) : ev P (.bi b es) σ = (evs P es σ).bind fun xs => biD b xs := by simp only [ev]
@[simp ↓] theorem ev_bm (m : Bm) (a : Ex) (es : Exs) : ev P (.bm m a es) σ = (V3 (ev P a σ)).bind fun x => (tyM m x).bind fun _ => (evs P es σ).bind fun xs => bmD m x xs := by simp only [ev]
@[simp ↓] theorem ev_isi (a : Ex) (ts : List Ity) : ev P (.isi a ts) σ = (V3 (ev P a σ)).bind fun x => isiM x ts := by simp only [ev]
@[simp ↓] theorem ev_lc (e : Ex) (t : Tg) (i : It) (c : Op) (own : List Nat) : ev P (.lc e (.mk t i c) own) σ = (evi P i σ).bind fun r => (compI (fun x => (asg P t x (wipeD σ own)).bind fun σ2 => (evt P c σ2).bind fun b =>
      if b then (V3 (ev P e σ2)).bind fun y => M.pure (some y) else M.pure none) r.2 r.1 []).bind retN := by simp only [ev]
@[simp ↓] theorem ev_lc2 (e : Ex) (t : Tg) (i : It) (c : Op) (t2 : Tg) (i2 : It) (c2 : Op) (own own2 : List Nat) : ev P (.lc2 e (.mk t i c) (.mk t2 i2 c2) own own2) σ = (evi P i σ).bind fun r => (compsI (fun x acc => (asg P t x (wipeD σ own)).bind fun σ2 => (evt P c σ2).bind fun b =>
      if b then (evi P i2 σ2).bind fun r2 => compI (fun x2 => (asg P t2 x2 (wipeD σ2 own2)).bind fun σ3 => (evt P c2 σ3).bind fun b2 =>
        if b2 then (V3 (ev P e σ3)).bind fun y => M.pure (some y) else M.pure none) r2.2 r2.1 acc else M.pure acc) r.2 r.1 []).bind retN := by simp only [ev]
@[simp ↓] theorem ev_dc (k v : Ex) (t : Tg) (i : It) (c : Op) (own : List Nat) : ev P (.dc k v (.mk t i c) own) σ = (evi P i σ).bind fun r => (compK (fun x => (asg P t x (wipeD σ own)).bind fun σ2 => (evt P c σ2).bind fun b =>
      if b then ((V3 (ev P k σ2)).bind fun a => (V3 (ev P v σ2)).bind fun b => M.pure (a, b)).bind fun y => M.pure (some y) else M.pure none) r.2 r.1 []).bind fun kvs => alloc (.dct kvs) := by simp only [ev]
def lockR : Raw → M Raw
  | .new xs => PX.ret (.lst xs)
  | .val d => (fzD d).bind PX.ret
@[simp ↓] theorem lockR_new (xs : List D) : lockR (.new xs) = PX.ret (.lst xs) := rfl
@[simp ↓] theorem lockR_val (d : D) : lockR (.val d) = (fzD d).bind PX.ret := rfl
@[simp ↓] theorem fzD_lst (xs : List D) : fzD (.lst xs) = M.pure (.lst xs) := rfl
@[simp ↓] theorem fzD_tup (xs : List D) : fzD (.tup xs) = M.pure (.tup xs) := rfl
@[simp ↓] theorem bind_retN {β : Type} (xs : List D) (f : Raw → M β) : (retN xs).bind f = f (.new xs) := rfl
@[simp ↓] theorem ev_fz (a : Ex) : ev P (.fz a) σ = (ev P a σ).bind lockR := by
  simp only [ev]
  congr 1
@[simp ↓] theorem evs_nil : evs P .nil σ = M.pure [] := by simp only [evs]
@[simp ↓] theorem evs_cons (a : Ex) (r : Exs) : evs P (.cons a r) σ = (V3 (ev P a σ)).bind fun x => (evs P r σ).bind fun xs => M.pure (x :: xs) := by simp only [evs]
@[simp ↓] theorem evo_no : evo P .no σ = M.pure none := by simp only [evo]
@[simp ↓] theorem evo_yes (a : Ex) : evo P (.yes a) σ = (V3 (ev P a σ)).bind fun x => (intM x).bind fun i => M.pure (some i) := by simp only [evo]
@[simp ↓] theorem evt_no : evt P .no σ = M.pure true := by simp only [evt]
@[simp ↓] theorem evt_yes (a : Ex) : evt P (.yes a) σ = (V3 (ev P a σ)).bind truM := by simp only [evt]
@[simp ↓] theorem evi_vals (a : Ex) : evi P (.vals a) σ = (V3 (ev P a σ)).bind walkM := by simp only [evi]
@[simp ↓] theorem evi_valT (x : Str) (ds : List D) : evi P (.valT x ds) σ = M.pure (ds, []) := by simp only [evi]
@[simp ↓] theorem evi_rng1 (a : Ex) : evi P (.rng1 a) σ = (V3 (ev P a σ)).bind fun x => (intM x).bind fun i => if i.natAbs < 2 ^ 61 then M.pure (rngD 0 i, []) else M.stuck := by simp only [evi]
@[simp ↓] theorem evi_rng2 (a b : Ex) : evi P (.rng2 a b) σ = (V3 (ev P a σ)).bind fun x => (V3 (ev P b σ)).bind fun y => (intM x).bind fun i => (intM y).bind fun j => if i.natAbs < 2 ^ 61 ∧ j.natAbs < 2 ^ 61 then M.pure (rngD i j, []) else M.stuck := by simp only [evi]
@[simp ↓] theorem evi_zip (a b : Ex) : evi P (.zip a b) σ = (V3 (ev P a σ)).bind fun x => (V3 (ev P b σ)).bind fun y => (seqM x).bind fun r => (seqM y).bind fun q => if isTupD x = isTupD y then M.pure (zipD r.1 q.1, r.2 ++ q.2) else M.stuck := by simp only [evi]
@[simp ↓] theorem evi_enum (a : Ex) : evi P (.enum a) σ = (V3 (ev P a σ)).bind fun x => (seqM x).bind fun r => if isTupD x then M.stuck else M.pure (enumD 0 r.1, r.2) := by simp only [evi]
@[simp ↓] theorem evi_rev (a : Ex) : evi P (.rev a) σ = (V3 (ev P a σ)).bind fun x => (seqM x).bind fun r => M.pure (r.1.reverse, r.2) := by simp only [evi]
@[simp ↓] theorem asg_name (i : Nat) (d : D) : asg P (.name i) d σ = putN i d σ := by simp only [asg]
@[simp ↓] theorem asg_tup (ts : Tgs) (xs : List D) : asg P (.tup ts) (.tup xs) σ = if xs.length = tgsN ts then asgs P ts xs σ else M.stuck := by simp only [asg]
@[simp ↓] theorem asg_sub (a b : Ex) (d : D) : asg P (.sub a b) d σ = (V3 (ev P a σ)).bind fun x => (V3 (ev P b σ)).bind fun y => (setD x y d).bind fun _ => M.pure σ := by simp only [asg]
@[simp ↓] theorem asg_fld (a : Ex) (f : Str) (d : D) : asg P (.fld a f) d σ = (V3 (ev P a σ)).bind fun x => (fldD P.attr x f d).bind fun _ => M.pure σ := by simp only [asg]
@[simp ↓] theorem asgs_nil : asgs P .nil [] σ = M.pure σ := by simp only [asgs]
@[simp ↓] theorem asgs_cons (t : Tg) (r : Tgs) (x : D) (xs : List D) : asgs P (.cons t r) (x :: xs) σ = (asg P t x σ).bind fun σ2 => asgs P r xs σ2 := by simp only [asgs]
@[simp ↓] theorem ex_asg (t : Tg) (e : Ex) : ex P (.asg t e) σ = lift σ (V3 (ev P e σ)) fun d => calm (asg P t d σ) fun σ2 => M.pure (.nx σ2) := by simp only [ex]
@[simp ↓] theorem ex_par (is : List Nat) (es : Exs) : ex P (.par is es) σ = lift σ (evs P es σ) fun ds => if ds.length = is.length then M.pure (.nx (setsN is ds σ)) else M.stuck := by simp only [ex]
@[simp ↓] theorem ex_aug (i : Nat) (o : Bop) (e : Ex) : ex P (.aug i o e) σ = lift σ (V3 (varD σ i)) fun x => lift σ (V3 (ev P e σ)) fun y => calm (augD o x y) fun z => M.pure (.nx (σ.set i (some z))) := by simp only [ex]
@[simp ↓] theorem ex_augF (a : Ex) (f : Str) (o : Bop) (e : Ex) : ex P (.augF a f o e) σ = lift σ (V3 (ev P a σ)) fun x => calm (clsM x) fun c => calm (V3 (attD P.attr x f)) fun u => lift σ (V3 (ev P e σ)) fun y => calm (augD o u y) fun z => calm (clsM x) fun c2 => if c2 = c then calm (fldD P.attr x f z) fun _ => M.pure (.nx σ) else M.stuck := by simp only [ex]
@[simp ↓] theorem ex_augS (a b : Ex) (o : Bop) (e : Ex) : ex P (.augS a b o e) σ = lift σ (V3 (ev P a σ)) fun x => lift σ (V3 (ev P b σ)) fun k => calm (V3 (idxD x k)) fun u => lift σ (V3 (ev P e σ)) fun y => calm (augD o u y) fun z => calm (setD x k z) fun _ => M.pure (.nx σ) := by simp only [ex]
@[simp ↓] theorem ex_exp (e : Ex) : ex P (.exp e) σ = lift σ (V3 (ev P e σ)) fun _ => M.pure (.nx σ) := by simp only [ex]
@[simp ↓] theorem ex_retn : ex P (.ret .no) σ = M.pure (.rt .non) := by simp only [ex]
@[simp ↓] theorem ex_ret (e : Ex) : ex P (.ret (.yes e)) σ = lift σ (V3 (ev P e σ)) fun d => M.pure (.rt d) := by simp only [ex]
@[simp ↓] theorem ex_ite (c : Ex) (a b : Stms) : ex P (.ite c a b) σ = lift σ ((V3 (ev P c σ)).bind truM) fun t => if t then exs P a σ else exs P b σ := by simp only [ex]
@[simp ↓] theorem ex_whl (c : Ex) (b : Stms) : ex P (.whl c b) σ = whileI (fun σ => (V3 (ev P c σ)).bind truM) (fun σ => exs P b σ) P.wf σ := by simp only [ex]
@[simp ↓] theorem ex_for (t : Tg) (i : It) (b : Stms) : ex P (.for_ t i b) σ = lift σ (evi P i σ) fun r => loopI (fun x σ => calm (asg P t x σ) fun σ2 => exs P b σ2) r.2 r.1 σ := by simp only [ex]
@[simp ↓] theorem ex_brk : ex P .brk σ = M.pure (.bk σ) := by simp only [ex]
@[simp ↓] theorem ex_cont : ex P .cont σ = M.pure (.ct σ) := by simp only [ex]
@[simp ↓] theorem ex_pass : ex P .pass σ = M.pure (.nx σ) := by simp only [ex]
@[simp ↓] theorem ex_raise (c : Nat) (es : Exs) : ex P (.raise c es) σ = lift σ (evs P es σ) fun ds => if ds.length ≤ lim then M.pure (.er c [] σ) else M.stuck := by simp only [ex]
def catchM (P : Par) (hs : Hdls) : Out → M Out
  | .er c fs σ2 => exh P hs c fs σ2
  | o => M.pure o
@[simp ↓] theorem catchM_er (hs : Hdls) (c : Nat) (fs : List (Str × D)) (σ2 : Sg) : catchM P hs (.er c fs σ2) = exh P hs c fs σ2 := rfl
@[simp ↓] theorem catchM_nx (hs : Hdls) (σ2 : Sg) : catchM P hs (.nx σ2) = M.pure (.nx σ2) := rfl
@[simp ↓] theorem catchM_rt (hs : Hdls) (d : D) : catchM P hs (.rt d) = M.pure (.rt d) := rfl
@[simp ↓] theorem catchM_bk (hs : Hdls) (σ2 : Sg) : catchM P hs (.bk σ2) = M.pure (.bk σ2) := rfl
@[simp ↓] theorem catchM_ct (hs : Hdls) (σ2 : Sg) : catchM P hs (.ct σ2) = M.pure (.ct σ2) := rfl
@[simp ↓] theorem ex_try (b : Stms) (hs : Hdls) : ex P (.try_ b hs) σ = (exs P b σ).bind (catchM P hs) := by
  simp only [ex]
  congr 1
@[simp ↓] theorem exs_nil : exs P .nil σ = M.pure (.nx σ) := by simp only [exs]
/-- what is behind a statement -/
def andThen (k : Sg → M Out) : Out → M Out
  | .nx σ => k σ
  | o => M.pure o
@[simp ↓] theorem andThen_nx (k : Sg → M Out) (σ : Sg) : andThen k (.nx σ) = k σ := rfl
@[simp ↓] theorem andThen_rt (k : Sg → M Out) (d : D) : andThen k (.rt d) = M.pure (.rt d) := rfl
@[simp ↓] theorem andThen_bk (k : Sg → M Out) (σ : Sg) : andThen k (.bk σ) = M.pure (.bk σ) := rfl
@[simp ↓] theorem andThen_ct (k : Sg → M Out) (σ : Sg) : andThen k (.ct σ) = M.pure (.ct σ) := rfl
@[simp ↓] theorem andThen_er (k : Sg → M Out) (c : Nat) (fs : List (Str × D)) (σ : Sg) : andThen k (.er c fs σ) = M.pure (.er c fs σ) := rfl
@[simp ↓] theorem exs_cons (s : Stm) (r : Stms) : exs P (.cons s r) σ = (ex P s σ).bind (andThen fun σ2 => exs P r σ2) := by
  simp only [exs]
  congr 1
@[simp ↓] theorem exh_nil (c : Nat) (fs : List (Str × D)) : exh P .nil c fs σ = M.pure (.er c fs σ) := by simp only [exh]
@[simp ↓] theorem exh_cons (cs : List Nat) (x : Option Nat) (b : Stms) (r : Hdls) (c : Nat) (fs : List (Str × D)) : exh P (.cons cs x b r) c fs σ = if cs.any fun k => P.isa c k then exs P b σ else exh P r c fs σ := by simp only [exh]
@[simp ↓] theorem setsN_nil (ds : List D) (σ : Sg) : setsN [] ds σ = σ := by simp only [setsN]
@[simp ↓] theorem setsN_cons (i : Nat) (is : List Nat) (d : D) (ds : List D) (σ : Sg) : setsN (i :: is) (d :: ds) σ = setsN is ds (σ.set i (some d)) := by simp only [setsN]
@[simp ↓] theorem wipeD_nil (σ : Sg) : wipeD σ [] = σ := rfl
@[simp ↓] theorem wipeD_cons (σ : Sg) (v : Nat) (vs : List Nat) : wipeD σ (v :: vs) = (wipeD σ vs).set v none := rfl
@[simp ↓] theorem par_call (T : Prog) (k i : Nat) (ds : List D) : (par T k).call i ds = callI T k i ds := rfl
@[simp ↓] theorem par_meth (T : Prog) (k : Nat) : (par T k).meth = T.meth := rfl
@[simp ↓] theorem par_init (T : Prog) (k : Nat) : (par T k).init = T.init := rfl
@[simp ↓] theorem par_isa (T : Prog) (k : Nat) : (par T k).isa = T.isa := rfl
@[simp ↓] theorem par_attr (T : Prog) (k : Nat) : (par T k).attr = T.attr := rfl
@[simp ↓] theorem par_wf (T : Prog) (k : Nat) : (par T k).wf = T.wf := rfl
end
end PX

/-! PYc: the drawn streams of the laws. -/
namespace PX
open PySem L2
def s_stream : Stms :=
 (.cons (.asg (.name 1) (.con (.int (17))))
(.cons (.for_ (.name 2) (.vals (.var 0))
 (.cons (.asg (.name 1) (.bin .mod (.bi .int (.cons (.bin .add (.bin .add (.bin .mul (.var 1) (.con (.int (48271)))) (.bin .mod (.bi .int (.cons (.var 2) .nil)) (.con (.int (65521))))) (.con (.int (1)))) .nil)) (.con (.int (2147483647)))))
 .nil))
(.cons (.ret (.yes (.lst (.cons (.fz (.bi .list (.cons (.var 0) .nil))) (.cons (.con (.int (0))) (.cons (.con (.int (0))) (.cons (.var 1) .nil)))))))
.nil)))
def s_draw : Stms :=
 (.cons (.ite (.and (.cmp .eq (.idx (.var 0) (.con (.int (1)))) (.con (.int (0)))) (.cmp .lt (.idx (.var 0) (.con (.int (2)))) (.bi .len (.cons (.idx (.var 0) (.con (.int (0)))) .nil))))
 (.cons (.asg (.sub (.var 0) (.con (.int (1)))) (.bi .abs (.cons (.bi .int (.cons (.idx (.idx (.var 0) (.con (.int (0)))) (.idx (.var 0) (.con (.int (2))))) .nil)) .nil)))
 (.cons (.asg (.sub (.var 0) (.con (.int (2)))) (.bin .add (.idx (.var 0) (.con (.int (2)))) (.con (.int (1)))))
 .nil))
 .nil)
(.cons (.ite (.cmp .eq (.idx (.var 0) (.con (.int (1)))) (.con (.int (0))))
 (.cons (.asg (.sub (.var 0) (.con (.int (3)))) (.bin .mod (.bi .int (.cons (.bin .add (.bin .mul (.idx (.var 0) (.con (.int (3)))) (.con (.int (48271)))) (.con (.int (11)))) .nil)) (.con (.int (2147483647)))))
 (.cons (.ret (.yes (.bin .mod (.bi .int (.cons (.bin .fdiv (.idx (.var 0) (.con (.int (3)))) (.con (.int (97)))) .nil)) (.var 1))))
 .nil))
 .nil)
(.cons (.asg (.name 2) (.bin .mod (.bi .int (.cons (.idx (.var 0) (.con (.int (1)))) .nil)) (.var 1)))
(.cons (.asg (.sub (.var 0) (.con (.int (1)))) (.bin .fdiv (.idx (.var 0) (.con (.int (1)))) (.var 1)))
(.cons (.ret (.yes (.var 2)))
.nil)))))
def s_pick (i : Nat) : Stms :=
 (.cons (.ret (.yes (.idx (.var 1) (.call i (.cons (.var 0) (.cons (.bi .len (.cons (.var 1) .nil)) .nil))))))
.nil)
/-- a stream -/
def Strm (o : MO) : Prop := ∃ (xs : List Int) (a b c : Int), o = .lst [.lst (xs.map D.int), .int a, .int b, .int c] ∧ 0 ≤ a ∧ 0 ≤ b ∧ 0 ≤ c ∧ c < 2147483647
section
variable {α : Type} {E : Nat → List (Str × D) → Hs → Prop} {h h' : Hs} {rest : Hs}
theorem wp_binD_mul {i j : Int} {Q : Raw → Hs → Prop} (hi : i.natAbs < 2 ^ 64 ∨ j.natAbs < 2 ^ 64) : Wp (binD .mul (.int i) (.int j)) h Q E ↔ Q (.val (.int (i * j))) h := by
  simp only [Wp, WpI, binD]
  rw [if_pos hi]
theorem bin_mul_small (i : Int) (j : Nat) (hj : j < 2 ^ 64) : binD .mul (.int i) (.int (OfNat.ofNat j)) = ret (.int (i * OfNat.ofNat j)) := by
  funext x
  simp only [binD]
  rw [if_pos]
  right
  exact hj
theorem fdiv_int {i j : Int} (h1 : 0 < j) (h2 : j < 1073741824) : binD .fdiv (.int i) (.int j) = ret (.int (i / j)) := by
  funext x
  simp only [binD, h1, h2, and_self, if_true]
theorem mod_int {i j : Int} (h1 : 0 < j) : binD .mod (.int i) (.int j) = ret (.int (i % j)) := by
  funext x
  simp only [binD, h1, if_true]
/-- a list at a place -/
theorem wp_idx_ref {n : Nat} {xs : List D} {i : Int} {d : D} {Q : Raw → Hs → Prop} (e : h[n]? = some (.lst xs)) (g : atI xs i = some d) : Wp (idxD (.ref n) (.int i)) h Q E ↔ Q (.val d) h := by
  simp only [Wp, WpI, idxD, e, atD, retO, g]
theorem wp_set_ref {n : Nat} {xs : List D} {i : Int} {j : Nat} {d : D} {Q : Unit → Hs → Prop} (e : h[n]? = some (.lst xs)) (g : ixN xs.length i = some j) : Wp (setD (.ref n) (.int i) d) h Q E ↔ Q () (h.set n (.lst (xs.set j d))) := by
  simp only [Wp, WpI, setD, e, g]
@[simp ↓] theorem wp_idx_s0 {a b c e : D} {Q : Raw → Hs → Prop} : Wp (idxD (.ref 0) (.int 0)) (.lst [a, b, c, e] :: rest) Q E ↔ Q (.val a) (.lst [a, b, c, e] :: rest) := Iff.rfl
@[simp ↓] theorem wp_idx_s1 {a b c e : D} {Q : Raw → Hs → Prop} : Wp (idxD (.ref 0) (.int 1)) (.lst [a, b, c, e] :: rest) Q E ↔ Q (.val b) (.lst [a, b, c, e] :: rest) := Iff.rfl
@[simp ↓] theorem wp_idx_s2 {a b c e : D} {Q : Raw → Hs → Prop} : Wp (idxD (.ref 0) (.int 2)) (.lst [a, b, c, e] :: rest) Q E ↔ Q (.val c) (.lst [a, b, c, e] :: rest) := Iff.rfl
@[simp ↓] theorem wp_idx_s3 {a b c e : D} {Q : Raw → Hs → Prop} : Wp (idxD (.ref 0) (.int 3)) (.lst [a, b, c, e] :: rest) Q E ↔ Q (.val e) (.lst [a, b, c, e] :: rest) := Iff.rfl
@[simp ↓] theorem wp_set_s1 {a b c e d : D} {Q : Unit → Hs → Prop} : Wp (setD (.ref 0) (.int 1) d) (.lst [a, b, c, e] :: rest) Q E ↔ Q () (.lst [a, d, c, e] :: rest) := Iff.rfl
@[simp ↓] theorem wp_set_s2 {a b c e d : D} {Q : Unit → Hs → Prop} : Wp (setD (.ref 0) (.int 2) d) (.lst [a, b, c, e] :: rest) Q E ↔ Q () (.lst [a, b, d, e] :: rest) := Iff.rfl
@[simp ↓] theorem wp_set_s3 {a b c e d : D} {Q : Unit → Hs → Prop} : Wp (setD (.ref 0) (.int 3) d) (.lst [a, b, c, e] :: rest) Q E ↔ Q () (.lst [a, b, c, d] :: rest) := Iff.rfl
theorem at_ints {xs : List Int} {i : Int} (h1 : 0 ≤ i) (h2 : i < xs.length) : ∃ j, idxD (.lst (xs.map D.int)) (.int i) = PX.ret (.int j) := by
  obtain ⟨n, rfl⟩ : ∃ n : Nat, i = n := ⟨i.toNat, by omega⟩
  have hn : n < xs.length := by omega
  refine ⟨xs[n], ?_⟩
  funext h
  have : atI (xs.map D.int) (n : Int) = some (.int xs[n]) := by
    simp [atI, ixN, hn]
  simp only [idxD, atD, this, retO]
theorem wp_draw {T : Prog} {k i : Nat} {m : Int} {o : MO} (hT : T.fns[i]? = some ⟨3, 2, s_draw, false⟩) (so : Strm o) (hm : 0 < m) (hm2 : m < 1073741824) :
    Wp (callI T (k + 1) i [.ref 0, .int m]) (o :: rest) (fun d h' => ∃ j o', d = .int j ∧ 0 ≤ j ∧ j < m ∧ Strm o' ∧ h' = o' :: rest) E := by
  obtain ⟨xs, a, b, c, rfl, ha, hb, hc, hc2⟩ := so
  refine wp_callP hT rfl ?_
  have fin0 : ∀ (a b c : Int), 0 ≤ a → 0 ≤ b → 0 ≤ c → c < 2147483647 → Strm (.lst [.lst (xs.map D.int), .int a, .int b, .int c]) := fun a b c h1 h2 h3 h4 => ⟨xs, a, b, c, rfl, h1, h2, h3, h4⟩
  have r1 : ∀ x : Int, 0 ≤ x % m := fun x => Int.emod_nonneg _ (by omega)
  have r2 : ∀ x : Int, x % m < m := fun x => Int.emod_lt_of_pos _ hm
  have d0 : ∀ x : Int, 0 ≤ x → 0 ≤ x / m := fun x hx => Int.ediv_nonneg hx (by omega)
  have c1 : ∀ x : Int, 0 ≤ x % 2147483647 := fun x => Int.emod_nonneg _ (by omega)
  have c2 : ∀ x : Int, x % 2147483647 < 2147483647 := fun x => Int.emod_lt_of_pos _ (by omega)
  have mu : ∀ x : Int, binD .mul (.int x) (.int 48271) = PX.ret (.int (x * 48271)) := fun x => bin_mul_small x 48271 (by decide)
  have q97 : ∀ x : Int, binD .fdiv (.int x) (.int 97) = PX.ret (.int (x / 97)) := fun x => fdiv_int (by omega) (by omega)
  have qm : ∀ x : Int, binD .fdiv (.int x) (.int m) = PX.ret (.int (x / m)) := fun x => fdiv_int hm hm2
  have mm : ∀ x : Int, binD .mod (.int x) (.int m) = PX.ret (.int (x % m)) := fun x => mod_int hm
  have tail : ∀ (a b c : Int), 0 ≤ a → 0 ≤ b → 0 ≤ c → c < 2147483647 →
      Wp (exs (par T k) (.cons (.ite (.cmp .eq (.idx (.var 0) (.con (.int (1)))) (.con (.int (0))))
 (.cons (.asg (.sub (.var 0) (.con (.int (3)))) (.bin .mod (.bi .int (.cons (.bin .add (.bin .mul (.idx (.var 0) (.con (.int (3)))) (.con (.int (48271)))) (.con (.int (11)))) .nil)) (.con (.int (2147483647)))))
 (.cons (.ret (.yes (.bin .mod (.bi .int (.cons (.bin .fdiv (.idx (.var 0) (.con (.int (3)))) (.con (.int (97)))) .nil)) (.var 1))))
 .nil))
 .nil)
(.cons (.asg (.name 2) (.bin .mod (.bi .int (.cons (.idx (.var 0) (.con (.int (1)))) .nil)) (.var 1)))
(.cons (.asg (.sub (.var 0) (.con (.int (1)))) (.bin .fdiv (.idx (.var 0) (.con (.int (1)))) (.var 1)))
(.cons (.ret (.yes (.var 2)))
.nil)))) [some (.ref 0), some (.int m), none]) (.lst [.lst (xs.map D.int), .int a, .int b, .int c] :: rest)
      (Fin false (.lst [.lst (xs.map D.int), .int a, .int b, .int c] :: rest) (fun d h' => ∃ j o', d = .int j ∧ 0 ≤ j ∧ j < m ∧ Strm o' ∧ h' = o' :: rest) E) NoE := by
    intro a b c ha hb hc hc2
    simp [mu, q97, qm, mm]
    constructor
    · intro e
      exact ⟨r1 _, r2 _, fin0 _ _ _ ha hb (c1 _) (c2 _)⟩
    · intro e
      exact ⟨r1 _, r2 _, fin0 _ _ _ (d0 _ ha) hb hc hc2⟩
  simp only [s_draw, startD]
  rw [exs_cons, wp_bind]
  refine Wp.mono (Q := fun o h' => o = .nx [some (.ref 0), some (.int m), none] ∧ ∃ a b, 0 ≤ a ∧ 0 ≤ b ∧ h' = .lst [.lst (xs.map D.int), .int a, .int b, .int c] :: rest) ?_ ?_
  · by_cases h0 : a = 0
    · by_cases h1 : b < xs.length
      · obtain ⟨j, hj⟩ := at_ints hb h1
        simp [h0, h1, hj]
        omega
      · simp [h0, h1]
        exact hb
    · simp [h0]
      exact ⟨ha, hb⟩
  · rintro _ _ ⟨rfl, a, b, h1, h2, rfl⟩
    exact tail a b c h1 h2 hc hc2
theorem wp_pick {T : Prog} {k i j : Nat} {xs : List D} {o : MO} (hT : T.fns[i]? = some ⟨3, 2, s_draw, false⟩) (hP : T.fns[j]? = some ⟨2, 2, s_pick i, false⟩) (so : Strm o) (hm : xs ≠ []) (hm2 : xs.length < 1073741824) :
    Wp (callI T (k + 2) j [.ref 0, .lst xs]) (o :: rest) (fun d h' => d ∈ xs ∧ ∃ o', Strm o' ∧ h' = o' :: rest) E := by
  refine wp_callP hP rfl ?_
  simp [s_pick, startD]
  have hl : 0 < xs.length := by
    cases xs with
    | nil => exact absurd rfl hm
    | cons x xs => simp
  refine (wp_draw hT so (by omega) (by omega)).mono ?_
  rintro _ _ ⟨j, o', rfl, h1, h2, so', rfl⟩
  obtain ⟨n, rfl⟩ : ∃ n : Nat, j = n := ⟨j.toNat, by omega⟩
  have hn : n < xs.length := by omega
  have e : idxD (.lst xs) (.int n) = PX.ret xs[n] := by
    funext h
    have : atI xs (n : Int) = some xs[n] := by simp [atI, ixN, hn]
    simp only [idxD, atD, this, retO]
  simp [e]
  exact so'
theorem wp_stream {T : Prog} {k i : Nat} {ns : List Int} (hT : T.fns[i]? = some ⟨3, 1, s_stream, false⟩) :
    Wp (callI T (k + 1) i [.lst (ns.map D.int)]) [] (fun d h' => d = .ref 0 ∧ ∃ o', Strm o' ∧ h' = [o']) E := by
  refine wp_callP hT rfl ?_
  have mu : ∀ x : Int, binD .mul (.int x) (.int 48271) = PX.ret (.int (x * 48271)) := fun x => bin_mul_small x 48271 (by decide)
  simp [s_stream, startD]
  refine Wp.mono (Q := fun o h' => ∃ c x, o = .nx [some (.lst (ns.map D.int)), some (.int c), x] ∧ 0 ≤ c ∧ c < 2147483647 ∧ h' = []) ?_ ?_
  · refine wp_loopI (fun p σ h => ∃ c x, σ = [some (.lst (ns.map D.int)), some (.int c), x] ∧ 0 ≤ c ∧ c < 2147483647 ∧ h = []) (pre := []) ⟨17, none, rfl, by omega, by omega, rfl⟩ ?_ ?_
    · rintro p x q _ _ hp ⟨c, y, rfl, h1, h2, rfl⟩
      have hx : x ∈ ns.map D.int := by
        have : x ∈ p ++ x :: q := by simp
        rw [← hp] at this
        simpa using this
      obtain ⟨i, _, rfl⟩ := List.mem_map.mp hx
      simp [mu]
      omega
    · rintro _ _ ⟨c, y, rfl, h1, h2, rfl⟩
      exact ⟨c, y, rfl, h1, h2, rfl⟩
  · rintro _ _ ⟨c, x, rfl, h1, h2, rfl⟩
    simp
    exact ⟨ns, 0, 0, c, rfl, by omega, by omega, h1, h2⟩
end
end PX

/-! PYd: pure runs; comprehensions. -/
namespace PX
open PySem L2
section
variable {α β γ : Type} {E : Nat → List (Str × D) → Hs → Prop} {h h' : Hs}
theorem pure_of_wp {m : M α} {a : α} (w : ∀ h, Wp m h (fun d h' => d = a ∧ h' = h)) : m = M.pure a := by
  funext h
  obtain ⟨d, h', e, rfl, rfl⟩ := (w h).get
  exact e
/-- a def that tells a value -/
theorem tell {T : Prog} {k i n np : Nat} {b : Stms} {dr : Bool} {ds : List D} {d : D} (hT : T.fns[i]? = some ⟨n, np, b, dr⟩) (hl : ds.length = np) (w : ∀ h, Wp (exs (par T k) b (startD n ds)) h (Fin dr h (fun x h' => x = d ∧ h' = h) NoE)) : callI T (k + 1) i ds = M.pure d :=
  pure_of_wp fun h => wp_callP hT hl (w h)
theorem compI_pure {turn : D → M (Option D)} {g : α → D} {f : α → D} : ∀ {xs : List α} {acc : List D}, (∀ x ∈ xs, turn (g x) = M.pure (some (f x))) → acc.length + xs.length ≤ lim → compI turn [] (xs.map g) acc = M.pure (acc ++ xs.map f)
  | [], acc, _, _ => by funext h; simp [compI, M.pure]
  | x :: xs, acc, ht, hl => by
    funext h
    simp only [List.length_cons] at hl
    simp only [List.map_cons, compI, ht x List.mem_cons_self]
    have hg : grdOk h [] = true ∧ acc.length < lim := ⟨rfl, by omega⟩
    simp only [hg, and_self, if_true]
    rw [compI_pure (fun y hy => ht y (List.mem_cons_of_mem _ hy)) (by simp; omega)]
    simp
theorem wp_comp {turn : D → M (Option D)} {ds : List D} (f : D → D) {Q : List D → Hs → Prop} (ht : ∀ x ∈ ds, turn x = M.pure (some (f x))) (hl : ds.length ≤ lim) (q : Q (ds.map f) h) : Wp (compI turn [] ds []) h Q E := by
  have := compI_pure (g := id) (f := f) (acc := []) ht (by simpa using hl)
  rw [List.map_id] at this
  rw [this]
  exact q
theorem wp_comp2 {turn : D → M (Option D)} {xs : List α} {g : α → D} (f : α → D) {Q : List D → Hs → Prop} (ht : ∀ x ∈ xs, turn (g x) = M.pure (some (f x))) (hl : xs.length ≤ lim) (q : Q (xs.map f) h) : Wp (compI turn [] (xs.map g) []) h Q E := by
  rw [compI_pure ht (by simpa using hl)]
  exact q
/-- .. with a test -/
theorem compI_pure_filter {turn : D → M (Option D)} {g : α → D} {f : α → D} {p : α → Bool} : ∀ {xs : List α} {acc : List D}, (∀ x ∈ xs, turn (g x) = M.pure (if p x then some (f x) else none)) → acc.length + xs.length ≤ lim → compI turn [] (xs.map g) acc = M.pure (acc ++ (xs.filter p).map f)
  | [], acc, _, _ => by funext h; simp [compI, M.pure]
  | x :: xs, acc, ht, hl => by
    funext h
    simp only [List.length_cons] at hl
    simp only [List.map_cons, compI, ht x List.mem_cons_self]
    cases hp : p x with
    | true =>
      have hg : grdOk h [] = true ∧ acc.length < lim := ⟨rfl, by omega⟩
      simp only [hg, and_self, if_true]
      rw [compI_pure_filter (fun y hy => ht y (List.mem_cons_of_mem _ hy)) (by simp; omega)]
      simp [hp]
    | false =>
      have hg : grdOk h [] = true := rfl
      simp only [hg, if_true, Bool.false_eq_true, if_false]
      rw [compI_pure_filter (fun y hy => ht y (List.mem_cons_of_mem _ hy)) (by omega)]
      simp [hp]
theorem wp_comp_filter {turn : D → M (Option D)} {xs : List α} {g : α → D} (f : α → D) (p : α → Bool) {Q : List D → Hs → Prop} (ht : ∀ x ∈ xs, turn (g x) = M.pure (if p x then some (f x) else none)) (hl : xs.length ≤ lim) (q : Q ((xs.filter p).map f) h) : Wp (compI turn [] (xs.map g) []) h Q E := by
  rw [compI_pure_filter ht (by simpa using hl)]
  exact q
theorem compsI_pure {turn : D → List D → M (List D)} {g : α → D} {f : α → List D} : ∀ {xs : List α} {acc : List D}, (∀ x ∈ xs, ∀ acc : List D, acc.length + (f x).length ≤ lim → turn (g x) acc = M.pure (acc ++ f x)) → acc.length + (xs.map fun x => (f x).length).sum ≤ lim → compsI turn [] (xs.map g) acc = M.pure (acc ++ xs.flatMap f)
  | [], acc, _, _ => by funext h; simp [compsI, M.pure]
  | x :: xs, acc, ht, hl => by
    funext h
    simp only [List.map_cons, List.sum_cons] at hl
    simp only [List.map_cons, compsI]
    rw [ht x List.mem_cons_self acc (by omega)]
    have hg : grdOk h [] = true := rfl
    simp only [hg, if_true]
    rw [compsI_pure (fun y hy => ht y (List.mem_cons_of_mem _ hy)) (by simp; omega)]
    simp
theorem wp_comps {turn : D → List D → M (List D)} {xs : List α} {g : α → D} (f : α → List D) {Q : List D → Hs → Prop} (ht : ∀ x ∈ xs, ∀ acc : List D, acc.length + (f x).length ≤ lim → turn (g x) acc = M.pure (acc ++ f x)) (hl : (xs.map fun x => (f x).length).sum ≤ lim) (q : Q (xs.flatMap f) h) : Wp (compsI turn [] (xs.map g) []) h Q E := by
  rw [compsI_pure ht (by simpa using hl)]
  exact q
/-- items that a state goes through -/
def stRun {σt : Type} (f : D → σt → D × σt) : List D → σt → List D × σt
  | [], s => ([], s)
  | x :: xs, s => ((f x s).1 :: (stRun f xs (f x s).2).1, (stRun f xs (f x s).2).2)
theorem compI_st {σt : Type} {st : σt → Hs} {f : D → σt → D × σt} {turn : D → M (Option D)} : ∀ {ds acc : List D} {s : σt}, (∀ x ∈ ds, ∀ s, Wp (turn x) (st s) (fun o h' => o = some (f x s).1 ∧ h' = st (f x s).2)) → acc.length + ds.length ≤ lim → compI turn [] ds acc (st s) = .ok (acc ++ (stRun f ds s).1) (st (stRun f ds s).2)
  | [], acc, s, _, _ => by simp [compI, stRun]
  | x :: xs, acc, s, ht, hl => by
    simp only [List.length_cons] at hl
    simp only [compI]
    obtain ⟨o, h', e, rfl, rfl⟩ := (ht x List.mem_cons_self s).get
    rw [e]
    have hg : grdOk (st (f x s).2) [] = true ∧ acc.length < lim := ⟨rfl, by omega⟩
    simp only [hg, and_self, if_true]
    rw [compI_st (fun y hy => ht y (List.mem_cons_of_mem _ hy)) (by simp; omega)]
    simp [stRun]
/-- a comprehension that keeps a state -/
theorem wp_comp_st {σt : Type} (st : σt → Hs) (f : D → σt → D × σt) {turn : D → M (Option D)} {ds : List D} (s : σt) {Q : List D → Hs → Prop} (hs : h = st s) (ht : ∀ x ∈ ds, ∀ s, Wp (turn x) (st s) (fun o h' => o = some (f x s).1 ∧ h' = st (f x s).2)) (hl : ds.length ≤ lim)
    (q : Q (stRun f ds s).1 (st (stRun f ds s).2)) : Wp (compI turn [] ds []) h Q E := by
  unfold Wp WpI
  rw [hs, compI_st (st := st) (f := f) (acc := []) ht (by simpa using hl)]
  simpa using q
/-- .. of truths -/
def boolRun {σt : Type} (f : D → σt → Bool × σt) : List D → σt → Bool × σt
  | [], s => (true, s)
  | x :: xs, s => ((f x s).1 && (boolRun f xs (f x s).2).1, (boolRun f xs (f x s).2).2)
theorem all_stRun {σt : Type} (f : D → σt → Bool × σt) : ∀ (xs : List D) (s : σt), biD .all [.lst (stRun (fun x s => (.bl (f x s).1, (f x s).2)) xs s).1] = PX.ret (.bl (boolRun f xs s).1) ∧ (stRun (fun x s => (D.bl (f x s).1, (f x s).2)) xs s).2 = (boolRun f xs s).2 := by
  intro xs s
  have key : ∀ (xs : List D) (s : σt), ∃ bs, boolsD (stRun (fun x s => (D.bl (f x s).1, (f x s).2)) xs s).1 = some bs ∧ bs.all id = (boolRun f xs s).1 ∧ (stRun (fun x s => (D.bl (f x s).1, (f x s).2)) xs s).2 = (boolRun f xs s).2 := by
    intro xs
    induction xs with
    | nil => intro s; exact ⟨[], rfl, rfl, rfl⟩
    | cons x xs ih =>
      intro s
      obtain ⟨bs, h1, h2, h3⟩ := ih (f x s).2
      exact ⟨(f x s).1 :: bs, by simp [stRun, boolsD, h1], by simp [boolRun, ← h2], by simp [stRun, boolRun, h3]⟩
  obtain ⟨bs, h1, h2, h3⟩ := key xs s
  refine ⟨?_, h3⟩
  funext h
  simp [biD, asList, h1, PX.ret, ← h2]
/-! ### values that are no reference -/
def nr : D → Bool
  | .ref _ => false
  | _ => true
def isIntD : D → Bool
  | .int _ | .bl _ => true
  | _ => false
def isBlD : D → Bool
  | .bl _ => true
  | _ => false
def isStrD : D → Bool
  | .str _ => true
  | _ => false
def isTup : D → Bool
  | .tup _ => true
  | _ => false
def isLst : D → Bool
  | .lst _ => true
  | _ => false
theorem isi_int1 {x : D} (h : nr x = true) : isiM x [.int] = PX.ret (.bl (isIntD x)) := by
  cases x <;> simp_all [nr, isIntD]
theorem isi_bool1 {x : D} (h : nr x = true) : isiM x [.bool] = PX.ret (.bl (isBlD x)) := by
  cases x <;> simp_all [nr, isBlD]
theorem isi_str1 {x : D} (h : nr x = true) : isiM x [.str] = PX.ret (.bl (isStrD x)) := by
  cases x <;> simp_all [nr, isStrD]
theorem isi_tuple1 {x : D} (h : nr x = true) : isiM x [.tuple] = PX.ret (.bl (isTup x)) := by
  cases x <;> simp_all [nr, isTup]
theorem isi_list1 {x : D} (h : nr x = true) : isiM x [.list] = PX.ret (.bl (isLst x)) := by
  cases x <;> simp_all [nr, isLst]
theorem isStrD_iff {x : D} (h : isStrD x = true) : ∃ s, x = .str s := by
  cases x <;> first | exact ⟨_, rfl⟩ | cases h
theorem isTup_iff {x : D} (h : isTup x = true) : ∃ s, x = .tup s := by
  cases x <;> first | exact ⟨_, rfl⟩ | cases h
/-! ### new objects -/
@[simp ↓] theorem wp_alloc (o : MO) {Q : Raw → Hs → Prop} : Wp (alloc o) h Q E ↔ Q (.val (.ref h.length)) (h ++ [o]) := Iff.rfl
theorem get_last (h : Hs) (o : MO) : (h ++ [o])[h.length]? = some o := by simp
@[simp ↓] theorem wp_ty_get2 (kvs : List (Key × D)) {Q : Unit → Hs → Prop} : Wp (tyM .get2 (.ref h.length)) (h ++ [.dct kvs]) Q E ↔ Q () (h ++ [.dct kvs]) := by
  simp only [Wp, WpI, tyM, get_last]
@[simp ↓] theorem wp_bm_get2_str (kvs : List (Key × D)) (s : Str) (v : D) {Q : Raw → Hs → Prop} : Wp (bmD .get2 (.ref h.length) [.str s, v]) (h ++ [.dct kvs]) Q E ↔ Q (.val ((getKD kvs (.inr s)).getD v)) (h ++ [.dct kvs]) := by
  simp only [Wp, WpI, bmD, get_last, keyD]
/-- == of values that may be compared -/
theorem cmp_eq_fair {a b : D} (fa : fair a = true) (fb : fair b = true) (da : depD a ≤ 64) (db : depD b ≤ 64) : cmpM .eq a b = PX.ret (.bl (eqD a b)) := by
  funext h
  have sa : shown h a = a := by cases a <;> first | rfl | simp [fair] at fa
  have sb : shown h b = b := by cases b <;> first | rfl | simp [fair] at fb
  simp only [cmpM, cmpD, eqv, sa, sb, fa, fb, da, db, decide_true, Bool.and_self, if_true]
  split <;> rename_i e <;> split at e <;> first | (cases e; rfl) | cases e
theorem cmp_ne_fair {a b : D} (fa : fair a = true) (fb : fair b = true) (da : depD a ≤ 64) (db : depD b ≤ 64) : cmpM .ne a b = PX.ret (.bl !(eqD a b)) := by
  have := cmp_eq_fair fa fb da db
  funext h
  have e := congrFun this h
  simp only [cmpM, cmpD, PX.ret] at e ⊢
  cases z : eqv h a b with
  | none => rw [z] at e; cases e
  | some r => rw [z] at e; injection e with e1 _; injection e1 with e1; injection e1 with e1; simp [e1]
@[simp ↓] theorem fin_bl (b : Bool) (e : Hs) {Q : D → Hs → Prop} : Fin true h Q E (.rt (.bl b)) (h ++ e) ↔ Q (.bl b) h := by
  simp [Fin, Fin.fin, okDrop_app, noRef, List.take_left]
@[simp ↓] theorem fin_bl0 (b : Bool) {Q : D → Hs → Prop} : Fin true h Q E (.rt (.bl b)) h ↔ Q (.bl b) h := by
  have := fin_bl (h := h) (E := E) (Q := Q) b []
  rwa [List.append_nil] at this
theorem fin_drop {d : D} {e : Hs} {Q : D → Hs → Prop} (n : noRef h.length d = true) : Fin true h Q E (.rt d) (h ++ e) ↔ Q d h := by
  simp [Fin, Fin.fin, okDrop_app, n, List.take_left]
theorem fin_drop0 {d : D} {Q : D → Hs → Prop} (n : noRef h.length d = true) : Fin true h Q E (.rt d) h ↔ Q d h := by
  have := fin_drop (h := h) (E := E) (Q := Q) (e := []) n
  rwa [List.append_nil] at this
@[simp ↓] theorem all_nil : biD .all [.lst []] = PX.ret (.bl true) := rfl
@[simp ↓] theorem compI_nil (turn : D → M (Option D)) (g : Grd) (acc : List D) : compI turn g [] acc = M.pure acc := by
  funext h
  simp [compI, M.pure]
/-! ### items by literal places -/
theorem at_nat {xs : List D} {n : Nat} (hn : n < xs.length) : atI xs (n : Int) = some xs[n] := by simp [atI, ixN, hn]
theorem idx_tup_nat {xs : List D} {n : Nat} (hn : n < xs.length) : idxD (.tup xs) (.int n) = PX.ret xs[n] := by
  funext h; simp only [idxD, atD, at_nat hn, retO]
theorem idx_lst_nat {xs : List D} {n : Nat} (hn : n < xs.length) : idxD (.lst xs) (.int n) = PX.ret xs[n] := by
  funext h; simp only [idxD, atD, at_nat hn, retO]
@[simp ↓] theorem idx_tup0 (x : D) (xs : List D) : idxD (.tup (x :: xs)) (.int 0) = PX.ret x := idx_tup_nat (xs := x :: xs) (n := 0) (by simp)
@[simp ↓] theorem idx_tup1 (x y : D) (xs : List D) : idxD (.tup (x :: y :: xs)) (.int 1) = PX.ret y := idx_tup_nat (xs := x :: y :: xs) (n := 1) (by simp)
@[simp ↓] theorem idx_tup2 (x y z : D) (xs : List D) : idxD (.tup (x :: y :: z :: xs)) (.int 2) = PX.ret z := idx_tup_nat (xs := x :: y :: z :: xs) (n := 2) (by simp)
@[simp ↓] theorem idx_tup3 (x y z u : D) (xs : List D) : idxD (.tup (x :: y :: z :: u :: xs)) (.int 3) = PX.ret u := idx_tup_nat (xs := x :: y :: z :: u :: xs) (n := 3) (by simp)
@[simp ↓] theorem idx_tup4 (x y z u w : D) (xs : List D) : idxD (.tup (x :: y :: z :: u :: w :: xs)) (.int 4) = PX.ret w := idx_tup_nat (xs := x :: y :: z :: u :: w :: xs) (n := 4) (by simp)
@[simp ↓] theorem idx_lst0 (x : D) (xs : List D) : idxD (.lst (x :: xs)) (.int 0) = PX.ret x := idx_lst_nat (xs := x :: xs) (n := 0) (by simp)
@[simp ↓] theorem idx_lst1 (x y : D) (xs : List D) : idxD (.lst (x :: y :: xs)) (.int 1) = PX.ret y := idx_lst_nat (xs := x :: y :: xs) (n := 1) (by simp)
@[simp ↓] theorem sl_tup1 (x : D) (xs : List D) : slD (.tup (x :: xs)) (some 1) none = PX.ret (.tup xs) := by
  funext h
  have e : cutD (x :: xs) (some 1) none = xs := by
    have h1 : HT.sIx (x :: xs).length 0 (some 1) = 1 := by simp [HT.sIx]
    have h2 : HT.sIx (x :: xs).length (x :: xs).length none = xs.length + 1 := by simp [HT.sIx]
    simp only [cutD, h1, h2]
    simp
  simp only [slD, e]
@[simp ↓] theorem intM_int (i : Int) : intM (.int i) = M.pure i := rfl
/-! ### 'x in (..)' of texts -/
@[simp] theorem inn_tup_str (s : Str) (xs : List D) : cmpM .inn (.str s) (.tup xs) = if xs.all isFlat then PX.ret (.bl (xs.any fun x => eqD x (.str s))) else M.stuck := by
  funext h
  by_cases e : xs.all isFlat = true
  · simp only [cmpM, cmpD, inD, isFlat, Bool.true_and, e, if_true, Option.map_some]
  · simp only [cmpM, cmpD, inD, isFlat, Bool.true_and, e, if_false, Option.map_none]
    simp [M.stuck]
@[simp] theorem inn_tup_int (s : Int) (xs : List D) : cmpM .inn (.int s) (.tup xs) = if xs.all isFlat then PX.ret (.bl (xs.any fun x => eqD x (.int s))) else M.stuck := by
  funext h
  by_cases e : xs.all isFlat = true
  · simp only [cmpM, cmpD, inD, isFlat, Bool.true_and, e, if_true, Option.map_some]
  · simp only [cmpM, cmpD, inD, isFlat, Bool.true_and, e, if_false, Option.map_none]
    simp [M.stuck]
@[simp] theorem nin_tup_str (s : Str) (xs : List D) : cmpM .nin (.str s) (.tup xs) = if xs.all isFlat then PX.ret (.bl !(xs.any fun x => eqD x (.str s))) else M.stuck := by
  funext h
  by_cases e : xs.all isFlat = true
  · simp only [cmpM, cmpD, inD, isFlat, Bool.true_and, e, if_true, Option.map_some]
  · simp only [cmpM, cmpD, inD, isFlat, Bool.true_and, e, if_false, Option.map_none]
    simp [M.stuck]
@[simp] theorem nin_tup_int (s : Int) (xs : List D) : cmpM .nin (.int s) (.tup xs) = if xs.all isFlat then PX.ret (.bl !(xs.any fun x => eqD x (.int s))) else M.stuck := by
  funext h
  by_cases e : xs.all isFlat = true
  · simp only [cmpM, cmpD, inD, isFlat, Bool.true_and, e, if_true, Option.map_some]
  · simp only [cmpM, cmpD, inD, isFlat, Bool.true_and, e, if_false, Option.map_none]
    simp [M.stuck]
@[simp] theorem eqD_str (a b : Str) : eqD (.str a) (.str b) = decide (a = b) := by simp only [eqD]
@[simp] theorem eqD_int (a b : Int) : eqD (.int a) (.int b) = decide (a = b) := by simp only [eqD]
@[simp] theorem isFlat_str (a : Str) : isFlat (.str a) = true := rfl
@[simp] theorem isFlat_int (a : Int) : isFlat (.int a) = true := rfl
end
end PX

/-! PYe: loops by what is done so far. -/
namespace PX
open PySem L2
section
variable {α β γ : Type} {E : Nat → List (Str × D) → Hs → Prop} {h h' : Hs}
/-- a loop over g of some things, with what holds of the things done -/
theorem wp_loop_rel (g : α → D) {body : D → Sg → M Out} (I : List α → Sg → Hs → Prop) {xs : List α} {σ : Sg} {Q : Out → Hs → Prop} (i : I [] σ h)
    (ht : ∀ pre x post σ h, xs = pre ++ x :: post → I pre σ h → Wp (body (g x) σ) h fun o h' => match o with
      | .nx σ' => I (pre ++ [x]) σ' h'
      | .ct σ' => I (pre ++ [x]) σ' h'
      | .bk σ' => Q (.nx σ') h'
      | o => Q o h')
    (hQ : ∀ σ h, I xs σ h → Q (.nx σ) h) : Wp (loopI body [] (xs.map g) σ) h Q E := by
  have key : ∀ (post pre : List α) (σ : Sg) (h : Hs), xs = pre ++ post → I pre σ h → Wp (loopI body [] (post.map g) σ) h Q E := by
    intro post
    induction post with
    | nil =>
      intro pre σ h e i
      rw [List.append_nil] at e
      subst e
      exact hQ σ h i
    | cons x post ih =>
      intro pre σ h e i
      obtain ⟨o, h', e2, q⟩ := (ht pre x post σ h e i).get
      have hg : grdOk h' [] = true := rfl
      unfold Wp WpI
      simp only [List.map_cons, loopI]
      rw [e2]
      cases o with
      | nx σ' =>
        simp only [hg, if_true]
        exact ih (pre ++ [x]) σ' h' (by rw [e]; simp) q
      | ct σ' =>
        simp only [hg, if_true]
        exact ih (pre ++ [x]) σ' h' (by rw [e]; simp) q
      | bk σ' => exact q
      | rt d => exact q
      | er c fs σ' => exact q
  exact key xs [] σ h rfl i
/-- a comprehension over g of some things -/
theorem wp_comp_rel (g : α → D) {turn : D → M (Option D)} (I : List α → List D → Hs → Prop) {xs : List α} {Q : List D → Hs → Prop} (i : I [] [] h) (hl : xs.length ≤ lim)
    (ht : ∀ pre x post acc h, xs = pre ++ x :: post → I pre acc h → Wp (turn (g x)) h fun o h' => match o with
      | none => I (pre ++ [x]) acc h'
      | some y => I (pre ++ [x]) (acc ++ [y]) h')
    (hQ : ∀ acc h, I xs acc h → Q acc h) : Wp (compI turn [] (xs.map g) []) h Q E := by
  have key : ∀ (post pre : List α) (acc : List D) (h : Hs), xs = pre ++ post → acc.length ≤ pre.length → I pre acc h → Wp (compI turn [] (post.map g) acc) h Q E := by
    intro post
    induction post with
    | nil =>
      intro pre acc h e _ i
      rw [List.append_nil] at e
      subst e
      have := hQ acc h i
      simpa [compI, Wp, WpI] using this
    | cons x post ih =>
      intro pre acc h e la i
      obtain ⟨o, h', e2, q⟩ := (ht pre x post acc h e i).get
      have hg : grdOk h' [] = true := rfl
      have hd : acc.length < lim := by
        have := congrArg List.length e
        simp at this
        omega
      unfold Wp WpI
      simp only [List.map_cons, compI]
      rw [e2]
      cases o with
      | none =>
        simp only [hg, if_true]
        exact ih (pre ++ [x]) acc h' (by rw [e]; simp) (by simp; omega) q
      | some y =>
        simp only [hg, hd, and_self, if_true]
        exact ih (pre ++ [x]) (acc ++ [y]) h' (by rw [e]; simp) (by simp; omega) q
  exact key xs [] [] h rfl (Nat.le_refl _) i
@[simp ↓] theorem varD_seven (x0 x1 x2 x3 x4 x5 x6 : Option D) (d : D) (σ : Sg) : varD (x0 :: x1 :: x2 :: x3 :: x4 :: x5 :: x6 :: some d :: σ) 7 = ret d := rfl
@[simp ↓] theorem varD_eight (x0 x1 x2 x3 x4 x5 x6 x7 : Option D) (d : D) (σ : Sg) : varD (x0 :: x1 :: x2 :: x3 :: x4 :: x5 :: x6 :: x7 :: some d :: σ) 8 = ret d := rfl
@[simp ↓] theorem varD_nine (x0 x1 x2 x3 x4 x5 x6 x7 x8 : Option D) (d : D) (σ : Sg) : varD (x0 :: x1 :: x2 :: x3 :: x4 :: x5 :: x6 :: x7 :: x8 :: some d :: σ) 9 = ret d := rfl
@[simp ↓] theorem varD_ten (x0 x1 x2 x3 x4 x5 x6 x7 x8 x9 : Option D) (d : D) (σ : Sg) : varD (x0 :: x1 :: x2 :: x3 :: x4 :: x5 :: x6 :: x7 :: x8 :: x9 :: some d :: σ) 10 = ret d := rfl
@[simp ↓] theorem varD_eleven (x0 x1 x2 x3 x4 x5 x6 x7 x8 x9 x10 : Option D) (d : D) (σ : Sg) : varD (x0 :: x1 :: x2 :: x3 :: x4 :: x5 :: x6 :: x7 :: x8 :: x9 :: x10 :: some d :: σ) 11 = ret d := rfl
@[simp ↓] theorem varD_twelve (x0 x1 x2 x3 x4 x5 x6 x7 x8 x9 x10 x11 : Option D) (d : D) (σ : Sg) : varD (x0 :: x1 :: x2 :: x3 :: x4 :: x5 :: x6 :: x7 :: x8 :: x9 :: x10 :: x11 :: some d :: σ) 12 = ret d := rfl
@[simp ↓] theorem varD_thirteen (x0 x1 x2 x3 x4 x5 x6 x7 x8 x9 x10 x11 x12 : Option D) (d : D) (σ : Sg) : varD (x0 :: x1 :: x2 :: x3 :: x4 :: x5 :: x6 :: x7 :: x8 :: x9 :: x10 :: x11 :: x12 :: some d :: σ) 13 = ret d := rfl
@[simp ↓] theorem varD_fourteen (x0 x1 x2 x3 x4 x5 x6 x7 x8 x9 x10 x11 x12 x13 : Option D) (d : D) (σ : Sg) : varD (x0 :: x1 :: x2 :: x3 :: x4 :: x5 :: x6 :: x7 :: x8 :: x9 :: x10 :: x11 :: x12 :: x13 :: some d :: σ) 14 = ret d := rfl
@[simp] theorem putN_set (i : Nat) (d : D) (σ : Sg) : putN i d σ = M.pure (σ.set i (some d)) := rfl
@[simp ↓] theorem tgsN_nil : tgsN .nil = 0 := rfl
@[simp ↓] theorem tgsN_cons (t : Tg) (r : Tgs) : tgsN (.cons t r) = tgsN r + 1 := rfl
@[simp] theorem calm_iteM {c : Prop} [Decidable c] (m n : M α) (k : α → M β) : calm (if c then m else n) k = if c then calm m k else calm n k := by split <;> rfl
@[simp ↓] theorem max2_int (i j : Int) : biD .max2 [.int i, .int j] = PX.ret (.int (max i j)) := rfl
@[simp ↓] theorem min2_int (i j : Int) : biD .min2 [.int i, .int j] = PX.ret (.int (min i j)) := rfl
@[simp ↓] theorem aug_add_int (i j : Int) : augD .add (.int i) (.int j) = M.pure (.int (i + j)) := rfl
@[simp ↓] theorem aug_sub_int (i j : Int) : augD .sub (.int i) (.int j) = M.pure (.int (i - j)) := rfl
end
end PX

/-! PYf: lists in the store, sorted lists, keys of dicts. -/
namespace PX
open PySem L2
section
variable {α β γ : Type} {E : Nat → List (Str × D) → Hs → Prop} {h h' : Hs}
/-! ### a list at a place -/
theorem wp_len_ref {n : Nat} {xs : List D} {Q : Raw → Hs → Prop} (e : h[n]? = some (.lst xs)) : Wp (biD .len [.ref n]) h Q E ↔ Q (.val (.int xs.length)) h := by
  simp only [Wp, WpI, biD, lenD, e]
theorem wp_sl_ref {n : Nat} {xs : List D} {lo hi : Option Int} {Q : Raw → Hs → Prop} (e : h[n]? = some (.lst xs)) : Wp (slD (.ref n) lo hi) h Q E ↔ Q (.new (cutD xs lo hi)) h := by
  simp only [Wp, WpI, slD, asList, e]
theorem wp_ty_ref {n : Nat} {xs : List D} {m : Bm} {Q : Unit → Hs → Prop} (e : h[n]? = some (.lst xs)) (hm : m = .append ∨ m = .extend ∨ m = .pop0 ∨ m = .pop1) : Wp (tyM m (.ref n)) h Q E ↔ Q () h := by
  rcases hm with rfl | rfl | rfl | rfl <;> simp only [Wp, WpI, tyM, e]
theorem wp_append_ref {n : Nat} {xs : List D} {v : D} {Q : Raw → Hs → Prop} (e : h[n]? = some (.lst xs)) (hl : xs.length < lim) : Wp (bmD .append (.ref n) [v]) h Q E ↔ Q (.val .non) (h.set n (.lst (xs ++ [v]))) := by
  simp only [Wp, WpI, bmD, e, hl, if_true]
theorem wp_extend_ref {n : Nat} {xs ys : List D} {Q : Raw → Hs → Prop} (e : h[n]? = some (.lst xs)) (hl : xs.length + ys.length ≤ lim) : Wp (bmD .extend (.ref n) [.lst ys]) h Q E ↔ Q (.val .non) (h.set n (.lst (xs ++ ys))) := by
  simp only [Wp, WpI, bmD, e, asList, hl, if_true]
theorem wp_tru_ref {n : Nat} {xs : List D} {Q : Bool → Hs → Prop} (e : h[n]? = some (.lst xs)) : Wp (truM (.ref n)) h Q E ↔ Q (!xs.isEmpty) h := by
  simp only [Wp, WpI, truM, truth, e]
theorem wp_fz_ref {n : Nat} {xs : List D} {Q : D → Hs → Prop} (e : h[n]? = some (.lst xs)) : Wp (fzD (.ref n)) h Q E ↔ Q (.lst xs) (h.set n (.frz xs)) := by
  simp only [Wp, WpI, fzD, e]
theorem cut_to {xs : List D} {n : Nat} (hn : n ≤ xs.length) : cutD xs none (some (n : Int)) = xs.take n := by
  simp only [cutD, HT.sIx_none, HT.sIx_nat, List.drop_zero, Nat.sub_zero]
  rw [Nat.min_eq_left hn]
theorem cut_from {xs : List D} {n : Nat} (hn : n ≤ xs.length) : cutD xs (some (n : Int)) none = xs.drop n := by
  simp only [cutD, HT.sIx_none, HT.sIx_nat]
  rw [Nat.min_eq_left hn, List.take_of_length_le (by simp)]
theorem all_flat_ints (l : List Int) : (l.map D.int).all isFlat = true := by simp [isFlat]
theorem any_eq_ints (l : List Int) (i : Int) : ((l.map D.int).any fun x => eqD x (.int i)) = decide (i ∈ l) := by
  rw [Bool.eq_iff_iff]
  simp
theorem nin_ints (l : List Int) (i : Int) : cmpM .nin (.int i) (.lst (l.map D.int)) = PX.ret (.bl !(decide (i ∈ l))) := by
  funext h
  simp only [cmpM, cmpD, inD, all_flat_ints, isFlat, Bool.and_self, if_true, any_eq_ints, Option.map_some]
theorem inn_ints (l : List Int) (i : Int) : cmpM .inn (.int i) (.lst (l.map D.int)) = PX.ret (.bl (decide (i ∈ l))) := by
  funext h
  simp only [cmpM, cmpD, inD, all_flat_ints, isFlat, Bool.and_self, if_true, any_eq_ints]
/-- a comprehension that leaves the store as it is -/
theorem wp_comp_at {turn : D → M (Option D)} {xs : List α} {g : α → D} (f : α → D) (p : α → Bool) {Q : List D → Hs → Prop} (hl : xs.length ≤ lim) (ht : ∀ x ∈ xs, Wp (turn (g x)) h (fun o h' => o = (if p x then some (f x) else none) ∧ h' = h)) (q : Q ((xs.filter p).map f) h) : Wp (compI turn [] (xs.map g) []) h Q E := by
  refine wp_comp_rel g (fun pre acc h' => h' = h ∧ acc = (pre.filter p).map f) ⟨rfl, rfl⟩ hl ?_ ?_
  · rintro pre x post acc h' e ⟨rfl, rfl⟩
    refine (ht x (by rw [e]; simp)).mono ?_
    rintro _ _ ⟨rfl, rfl⟩
    by_cases hp : p x = true
    · simp [hp]
    · simp [hp]
  · rintro acc h' ⟨rfl, rfl⟩
    exact q
theorem rngD_nat (n : Nat) : rngD 0 (n : Int) = (List.range n).map fun k => D.int ((k : Nat) : Int) := by
  simp [rngD]
/-! ### sorted -/
theorem sort_perm {a b : List Int} (p : a.Perm b) : sortI a = sortI b := by
  unfold sortI
  have pa := List.mergeSort_perm a (fun a b => decide (a ≤ b))
  have pb := List.mergeSort_perm b (fun a b => decide (a ≤ b))
  refine List.Perm.eq_of_pairwise (le := fun a b : Int => a ≤ b) (fun a b _ _ h1 h2 => by omega) ?_ ?_ ((pa.trans p).trans pb.symm)
  · have := List.pairwise_mergeSort (le := fun a b : Int => decide (a ≤ b)) (by intro a b c h1 h2; simp at *; omega) (by intro a b; simp; omega) a
    exact this.imp (by simp)
  · have := List.pairwise_mergeSort (le := fun a b : Int => decide (a ≤ b)) (by intro a b c h1 h2; simp at *; omega) (by intro a b; simp; omega) b
    exact this.imp (by simp)
theorem sortI_same {a b : List Int} (na : a.Nodup) (nb : b.Nodup) (m : ∀ x, x ∈ a ↔ x ∈ b) : sortI a = sortI b := sort_perm ((List.perm_ext_iff_of_nodup na nb).mpr m)
theorem mem_sortI {a : List Int} {x : Int} : x ∈ sortI a ↔ x ∈ a := List.mem_mergeSort
theorem len_sortI (a : List Int) : (sortI a).length = a.length := List.length_mergeSort a
theorem nodup_sortI {a : List Int} (n : a.Nodup) : (sortI a).Nodup := (List.mergeSort_perm a _).symm.nodup n
theorem ints_map (l : List Int) : intsD (l.map D.int) = some l := by
  induction l with
  | nil => rfl
  | cons i l ih => simp [intsD, ih]
theorem sorted_ints (l : List Int) : biD .sorted [.lst (l.map D.int)] = retN ((sortI l).map D.int) := by
  funext h
  simp [biD, asList, ints_map, retN]
/-! ### the first of each -/
def ddup (l : List Int) : List Int := ((List.range l.length).filter fun k => !(decide (l.getD k 0 ∈ l.take k))).map fun k => l.getD k 0
theorem mem_ddup {l : List Int} {x : Int} : x ∈ ddup l ↔ x ∈ l := by
  simp only [ddup, List.mem_map, List.mem_filter, List.mem_range]
  constructor
  · rintro ⟨k, ⟨hk, _⟩, rfl⟩
    rw [List.getD_eq_getElem?_getD, List.getElem?_eq_getElem hk]
    exact List.getElem_mem hk
  · intro hx
    have hk := List.idxOf_lt_length_of_mem hx
    refine ⟨l.idxOf x, ⟨hk, ?_⟩, ?_⟩
    · rw [List.getD_eq_getElem?_getD, List.getElem?_eq_getElem hk]
      simp only [Option.getD_some, List.getElem_idxOf, Bool.not_eq_true', decide_eq_false_iff_not]
      intro hm
      obtain ⟨i, hi, e⟩ := List.mem_iff_getElem.mp hm
      rw [List.length_take] at hi
      rw [List.getElem_take] at e
      have : l.idxOf x ≤ i := by
        rcases Nat.lt_or_ge i (l.idxOf x) with h1 | h1
        · have h2 : i < l.findIdx (· == x) := h1
          have := List.not_of_lt_findIdx h2
          simp [e] at this
        · exact h1
      omega
    · rw [List.getD_eq_getElem?_getD, List.getElem?_eq_getElem hk]
      simp
theorem nodup_ddup (l : List Int) : (ddup l).Nodup := by
  unfold ddup
  rw [List.nodup_iff_pairwise_ne, List.pairwise_map]
  have h1 : (List.range l.length).Pairwise (fun i j => i < j ∧ j < l.length) := by
    rw [List.pairwise_iff_getElem]
    intro i j hi hj hij
    simp at hi hj ⊢
    omega
  rw [List.pairwise_filter]
  refine h1.imp ?_
  rintro i j ⟨hij, hj⟩ _ pj
  simp only [Bool.not_eq_true', decide_eq_false_iff_not] at pj
  intro e
  apply pj
  rw [← e, List.getD_eq_getElem?_getD, List.getElem?_eq_getElem (by omega)]
  simp only [Option.getD_some]
  rw [List.mem_iff_getElem]
  exact ⟨i, by simp; omega, by simp⟩
/-! ### keys -/
def keysOf (l : List Int) : List Int := l.foldl (fun ks i => if i ∈ ks then ks else ks ++ [i]) []
theorem keys_aux (l : List Int) : ∀ acc : List Int, acc.Nodup → (l.foldl (fun ks i => if i ∈ ks then ks else ks ++ [i]) acc).Nodup ∧ ∀ x, x ∈ l.foldl (fun ks i => if i ∈ ks then ks else ks ++ [i]) acc ↔ x ∈ acc ∨ x ∈ l := by
  induction l with
  | nil => intro acc n; simp [n]
  | cons i l ih =>
    intro acc n
    simp only [List.foldl_cons]
    by_cases hi : i ∈ acc
    · simp only [hi, if_true]
      have := ih acc n
      refine ⟨this.1, fun x => ?_⟩
      rw [this.2 x]
      constructor
      · rintro (h | h)
        · exact .inl h
        · exact .inr (List.mem_cons_of_mem _ h)
      · rintro (h | h)
        · exact .inl h
        · rcases List.mem_cons.mp h with rfl | h
          · exact .inl hi
          · exact .inr h
    · simp only [hi, if_false]
      have := ih (acc ++ [i]) (List.nodup_append.mpr ⟨n, by simp, by simp; intro a ha e; exact hi (e ▸ ha)⟩)
      refine ⟨this.1, fun x => ?_⟩
      rw [this.2 x]
      simp only [List.mem_append, List.mem_cons, List.not_mem_nil, or_false, or_assoc]
theorem nodup_keysOf (l : List Int) : (keysOf l).Nodup := (keys_aux l [] (by simp)).1
theorem mem_keysOf {l : List Int} {x : Int} : x ∈ keysOf l ↔ x ∈ l := by
  have := (keys_aux l [] (by simp)).2 x
  simpa [keysOf] using this
def truesOf (l : List Int) : List (Key × D) := l.map fun i => (.inl i, .bl true)
theorem put_trues (ks : List Int) (i : Int) : putKD (truesOf ks) (.inl i) (.bl true) = truesOf (if i ∈ ks then ks else ks ++ [i]) := by
  unfold putKD truesOf
  by_cases hi : i ∈ ks
  · have : ((ks.map fun i => ((.inl i : Key), D.bl true)).any fun kv => decide (kv.1 = .inl i)) = true := by
      simp
      exact hi
    rw [if_pos this, if_pos hi, List.map_map]
    apply List.map_congr_left
    intro j hj
    simp only [Function.comp]
    split
    · rfl
    · rfl
  · have : ¬ ((ks.map fun i => ((.inl i : Key), D.bl true)).any fun kv => decide (kv.1 = .inl i)) = true := by
      simp
      exact hi
    rw [if_neg this, if_neg hi]
    simp
theorem keysOf_len (l acc : List Int) : (l.foldl (fun ks i => if i ∈ ks then ks else ks ++ [i]) acc).length ≤ acc.length + l.length := by
  induction l generalizing acc with
  | nil => simp
  | cons i l ih =>
    simp only [List.foldl_cons, List.length_cons]
    split
    · have := ih acc; omega
    · have := ih (acc ++ [i])
      simp at this
      omega
/-- {i: True for i in ..} -/
theorem compK_trues {turn : D → M (Option (D × D))} : ∀ {l acc : List Int}, (∀ i ∈ l, turn (.int i) = M.pure (some (.int i, .bl true))) → acc.length + l.length ≤ lim → compK turn [] (l.map D.int) (truesOf acc) = M.pure (truesOf (l.foldl (fun ks i => if i ∈ ks then ks else ks ++ [i]) acc))
  | [], acc, _, _ => by funext h; simp [compK, M.pure]
  | i :: l, acc, ht, hl => by
    funext h
    simp only [List.length_cons] at hl
    simp only [List.map_cons, compK, ht i List.mem_cons_self, keyD]
    have hg : grdOk h [] = true ∧ (truesOf acc).length < lim := ⟨rfl, by simp [truesOf]; omega⟩
    simp only [hg, and_self, if_true, put_trues]
    rw [compK_trues (fun j hj => ht j (List.mem_cons_of_mem _ hj))]
    · simp only [List.foldl_cons]
    · split
      · omega
      · simp
        omega
theorem wp_compK_trues {turn : D → M (Option (D × D))} {l : List Int} {Q : List (Key × D) → Hs → Prop} (ht : ∀ i ∈ l, turn (.int i) = M.pure (some (.int i, .bl true))) (hl : l.length ≤ lim) (q : Q (truesOf (keysOf l)) h) : Wp (compK turn [] (l.map D.int) []) h Q E := by
  have := compK_trues (acc := []) ht (by simpa using hl)
  rw [show truesOf [] = [] from rfl] at this
  rw [this]
  exact q
theorem intKs_trues (l : List Int) : intKs (truesOf l) = some l := by
  induction l with
  | nil => rfl
  | cons i l ih =>
    have : intKs (truesOf (i :: l)) = (intKs (truesOf l)).map (i :: ·) := rfl
    rw [this, ih]
    rfl
theorem wp_sorted_keys {n : Nat} {l : List Int} {Q : Raw → Hs → Prop} (e : h[n]? = some (.dct (truesOf l))) (hl : l.length < 64) : Wp (biD .sorted [.ref n]) h Q E ↔ Q (.new ((sortI l).map D.int)) h := by
  simp only [Wp, WpI, biD, asList, e, Option.bind_none, keysI, intKs_trues, hl, if_true]
end
end PX

namespace K53
open PySem L2 PX
/-- 0: is_whole(value): 0 value -/
def b_is_whole : Stms :=
 (.cons (.ret (.yes (.and (.isi (.var 0) [.int]) (.not (.isi (.var 0) [.bool])))))
.nil)
/-- 1: is_atom(value): 0 value, 1 sign -/
def b_is_atom : Stms :=
 (.cons (.ite (.or (.not (.isi (.var 0) [.str])) (.or (.not (.chn .le .le (.con (.int (1))) (.bi .len (.cons (.var 0) .nil)) (.glo "MOST_ATOM" (.int (12))))) (.cmp .nin (.idx (.var 0) (.con (.int (0)))) (.glo "SMALL" (.str "abcdefghijklmnopqrstuvwxyz")))))
 (.cons (.ret (.yes (.con (.bl false))))
 .nil)
 .nil)
(.cons (.ret (.yes (.bi .all (.cons (.fz (.lc (.or (.cmp .inn (.var 1) (.glo "SMALL" (.str "abcdefghijklmnopqrstuvwxyz"))) (.cmp .inn (.var 1) (.glo "DIGITS" (.str "0123456789")))) (.mk (.name 1) (.vals (.var 0)) .no) [1])) .nil))))
.nil))
/-- 2: is_count(value): 0 value -/
def b_is_count : Stms :=
 (.cons (.ret (.yes (.and (.call 0 (.cons (.var 0) .nil)) (.chn .le .le (.con (.int (0))) (.var 0) (.glo "MOST_NUMBER" (.int (1000000000)))))))
.nil)
/-- 3: is_node(value, count): 0 value, 1 count, 2 word, 3 part -/
def b_is_node : Stms :=
 (.cons (.ite (.or (.not (.isi (.var 0) [.tuple])) (.or (.not (.var 0)) (.not (.isi (.idx (.var 0) (.con (.int (0)))) [.str]))))
 (.cons (.ret (.yes (.con (.bl false))))
 .nil)
 .nil)
(.cons (.asg (.name 2) (.idx (.var 0) (.con (.int (0)))))
(.cons (.ite (.cmp .eq (.var 2) (.con (.str "var")))
 (.cons (.ret (.yes (.and (.cmp .eq (.bi .len (.cons (.var 0) .nil)) (.con (.int (2)))) (.call 2 (.cons (.idx (.var 0) (.con (.int (1)))) .nil)))))
 .nil)
 .nil)
(.cons (.ite (.cmp .eq (.var 2) (.con (.str "int")))
 (.cons (.ret (.yes (.and (.cmp .eq (.bi .len (.cons (.var 0) .nil)) (.con (.int (2)))) (.and (.call 0 (.cons (.idx (.var 0) (.con (.int (1)))) .nil)) (.cmp .le (.bi .abs (.cons (.idx (.var 0) (.con (.int (1)))) .nil)) (.glo "MOST_NUMBER" (.int (1000000000))))))))
 .nil)
 .nil)
(.cons (.ite (.cmp .eq (.var 2) (.con (.str "atom")))
 (.cons (.ret (.yes (.and (.cmp .eq (.bi .len (.cons (.var 0) .nil)) (.con (.int (2)))) (.call 1 (.cons (.idx (.var 0) (.con (.int (1)))) .nil)))))
 .nil)
 .nil)
(.cons (.ite (.or (.cmp .ne (.bi .len (.cons (.var 0) .nil)) (.con (.int (3)))) (.not (.call 1 (.cons (.idx (.var 0) (.con (.int (1)))) .nil))))
 (.cons (.ret (.yes (.con (.bl false))))
 .nil)
 .nil)
(.cons (.ite (.cmp .eq (.var 2) (.con (.str "name")))
 (.cons (.ret (.yes (.call 2 (.cons (.idx (.var 0) (.con (.int (2)))) .nil))))
 .nil)
 .nil)
(.cons (.ite (.or (.cmp .ne (.var 2) (.con (.str "tuple"))) (.or (.not (.isi (.idx (.var 0) (.con (.int (2)))) [.tuple])) (.not (.chn .le .le (.con (.int (1))) (.bi .len (.cons (.idx (.var 0) (.con (.int (2)))) .nil)) (.glo "MOST_PARTS" (.int (6)))))))
 (.cons (.ret (.yes (.con (.bl false))))
 .nil)
 .nil)
(.cons (.ret (.yes (.bi .all (.cons (.fz (.lc (.and (.call 0 (.cons (.var 3) .nil)) (.chn .le .lt (.con (.int (0))) (.var 3) (.var 1))) (.mk (.name 3) (.vals (.idx (.var 0) (.con (.int (2))))) .no) [3])) .nil))))
.nil)))))))))
/-- 4: Sizes.__init__(self): 0 self -/
def b_Sizes____init : Stms :=
 (.cons (.asg (.fld (.var 0) "count") (.con (.int (0))))
.nil)
/-- 5: Sizes.more(self): 0 self -/
def b_Sizes__more : Stms :=
 (.cons (.augF (.var 0) "count" .add (.con (.int (1))))
(.cons (.ret (.yes (.cmp .le (.att (.var 0) "count") (.glo "MOST_SIZE" (.int (120))))))
.nil))
/-- 6: is_variable(value): 0 value -/
def b_is_variable : Stms :=
 (.cons (.ret (.yes (.and (.call 0 (.cons (.var 0) .nil)) (.chn .le .le (.con (.int (0))) (.var 0) (.glo "MOST_VARIABLE" (.int (99)))))))
.nil)
/-- 7: is_term(value, sizes, deep): 0 value, 1 sizes, 2 deep, 3 part -/
def b_is_term : Stms :=
 (.cons (.ite (.or (.not (.isi (.var 0) [.tuple])) (.or (.cmp .nin (.bi .len (.cons (.var 0) .nil)) (.tup (.cons (.con (.int (2))) (.cons (.con (.int (3))) .nil)))) (.not (.isi (.idx (.var 0) (.con (.int (0)))) [.str]))))
 (.cons (.ret (.yes (.con (.bl false))))
 .nil)
 .nil)
(.cons (.ite (.or (.cmp .gt (.var 2) (.glo "MOST_DEEP" (.int (20)))) (.not (.meth "more" (.var 1) .nil)))
 (.cons (.ret (.yes (.con (.bl false))))
 .nil)
 .nil)
(.cons (.ite (.cmp .eq (.idx (.var 0) (.con (.int (0)))) (.con (.str "var")))
 (.cons (.ret (.yes (.and (.cmp .eq (.bi .len (.cons (.var 0) .nil)) (.con (.int (2)))) (.call 6 (.cons (.idx (.var 0) (.con (.int (1)))) .nil)))))
 .nil)
 .nil)
(.cons (.ite (.cmp .inn (.idx (.var 0) (.con (.int (0)))) (.tup (.cons (.con (.str "int")) (.cons (.con (.str "atom")) .nil))))
 (.cons (.ret (.yes (.call 3 (.cons (.var 0) (.cons (.con (.int (0))) .nil)))))
 .nil)
 .nil)
(.cons (.ite (.or (.cmp .ne (.idx (.var 0) (.con (.int (0)))) (.con (.str "tuple"))) (.or (.cmp .ne (.bi .len (.cons (.var 0) .nil)) (.con (.int (3)))) (.or (.not (.call 1 (.cons (.idx (.var 0) (.con (.int (1)))) .nil))) (.not (.isi (.idx (.var 0) (.con (.int (2)))) [.tuple])))))
 (.cons (.ret (.yes (.con (.bl false))))
 .nil)
 .nil)
(.cons (.ret (.yes (.and (.chn .le .le (.con (.int (1))) (.bi .len (.cons (.idx (.var 0) (.con (.int (2)))) .nil)) (.glo "MOST_PARTS" (.int (6)))) (.bi .all (.cons (.fz (.lc (.call 7 (.cons (.var 3) (.cons (.var 1) (.cons (.bin .add (.var 2) (.con (.int (1)))) .nil)))) (.mk (.name 3) (.vals (.idx (.var 0) (.con (.int (2))))) .no) [3])) .nil)))))
.nil))))))
/-- 8: is_part(value, sizes, deep): 0 value, 1 sizes, 2 deep, 3 word, 4 rest, 5 part -/
def b_is_part : Stms :=
 (.cons (.ite (.or (.not (.isi (.var 0) [.tuple])) (.or (.not (.var 0)) (.not (.isi (.idx (.var 0) (.con (.int (0)))) [.str]))))
 (.cons (.ret (.yes (.con (.bl false))))
 .nil)
 .nil)
(.cons (.ite (.or (.cmp .gt (.var 2) (.glo "MOST_DEEP" (.int (20)))) (.not (.meth "more" (.var 1) .nil)))
 (.cons (.ret (.yes (.con (.bl false))))
 .nil)
 .nil)
(.cons (.par [3, 4] (.cons (.idx (.var 0) (.con (.int (0)))) (.cons (.sl (.var 0) (.yes (.con (.int (1)))) .no) .nil)))
(.cons (.ite (.cmp .inn (.var 3) (.tup (.cons (.con (.str "true")) (.cons (.con (.str "false")) .nil))))
 (.cons (.ret (.yes (.not (.var 4))))
 .nil)
 .nil)
(.cons (.ite (.cmp .eq (.var 3) (.con (.str "same")))
 (.cons (.ret (.yes (.and (.cmp .eq (.bi .len (.cons (.var 4) .nil)) (.con (.int (2)))) (.bi .all (.cons (.fz (.lc (.call 7 (.cons (.var 5) (.cons (.var 1) (.cons (.bin .add (.var 2) (.con (.int (1)))) .nil)))) (.mk (.name 5) (.vals (.var 4)) .no) [5])) .nil)))))
 .nil)
 .nil)
(.cons (.ite (.cmp .eq (.var 3) (.con (.str "not")))
 (.cons (.ret (.yes (.and (.cmp .eq (.bi .len (.cons (.var 4) .nil)) (.con (.int (1)))) (.call 8 (.cons (.idx (.var 4) (.con (.int (0)))) (.cons (.var 1) (.cons (.bin .add (.var 2) (.con (.int (1)))) .nil)))))))
 .nil)
 .nil)
(.cons (.ite (.cmp .inn (.var 3) (.tup (.cons (.con (.str "and")) (.cons (.con (.str "or")) .nil))))
 (.cons (.ret (.yes (.and (.cmp .eq (.bi .len (.cons (.var 4) .nil)) (.con (.int (2)))) (.bi .all (.cons (.fz (.lc (.call 8 (.cons (.var 5) (.cons (.var 1) (.cons (.bin .add (.var 2) (.con (.int (1)))) .nil)))) (.mk (.name 5) (.vals (.var 4)) .no) [5])) .nil)))))
 .nil)
 .nil)
(.cons (.ite (.cmp .inn (.var 3) (.tup (.cons (.con (.str "some")) (.cons (.con (.str "all")) .nil))))
 (.cons (.ret (.yes (.and (.cmp .eq (.bi .len (.cons (.var 4) .nil)) (.con (.int (2)))) (.and (.call 6 (.cons (.idx (.var 4) (.con (.int (0)))) .nil)) (.call 8 (.cons (.idx (.var 4) (.con (.int (1)))) (.cons (.var 1) (.cons (.bin .add (.var 2) (.con (.int (1)))) .nil))))))))
 .nil)
 .nil)
(.cons (.ret (.yes (.con (.bl false))))
.nil)))))))))
/-- 9: is_formula(value): 0 value -/
def b_is_formula : Stms :=
 (.cons (.ret (.yes (.call 8 (.cons (.var 0) (.cons (.new 0 .nil) (.cons (.con (.int (1))) .nil))))))
.nil)
/-- 10: check_formula(value): 0 value -/
def b_check_formula : Stms :=
 (.cons (.ite (.not (.call 9 (.cons (.var 0) .nil)))
 (.cons (.raise 2 (.cons (.con (.str "the value is no formula")) .nil))
 .nil)
 .nil)
.nil)
/-- 11: variables_of(term): 0 term, 1 part, 2 number -/
def b_variables_of : Stms :=
 (.cons (.ite (.cmp .eq (.idx (.var 0) (.con (.int (0)))) (.con (.str "var")))
 (.cons (.ret (.yes (.fz (.lst (.cons (.idx (.var 0) (.con (.int (1)))) .nil)))))
 .nil)
 .nil)
(.cons (.ite (.cmp .eq (.idx (.var 0) (.con (.int (0)))) (.con (.str "tuple")))
 (.cons (.ret (.yes (.fz (.lc2 (.var 2) (.mk (.name 1) (.vals (.idx (.var 0) (.con (.int (2))))) .no) (.mk (.name 2) (.vals (.call 11 (.cons (.var 1) .nil))) .no) [1, 2] [2]))))
 .nil)
 .nil)
(.cons (.ret (.yes (.fz (.lst .nil))))
.nil)))
/-- 12: free_numbers(formula, bound): 0 formula, 1 bound, 2 word, 3 part, 4 number, 5 term -/
def b_free_numbers : Stms :=
 (.cons (.asg (.name 2) (.idx (.var 0) (.con (.int (0)))))
(.cons (.ite (.cmp .eq (.var 2) (.con (.str "same")))
 (.cons (.ret (.yes (.fz (.lc2 (.var 4) (.mk (.name 5) (.vals (.sl (.var 0) (.yes (.con (.int (1)))) .no)) .no) (.mk (.name 4) (.vals (.call 11 (.cons (.var 5) .nil))) (.yes (.cmp .nin (.var 4) (.var 1)))) [5, 4] [4]))))
 .nil)
 .nil)
(.cons (.ite (.cmp .inn (.var 2) (.tup (.cons (.con (.str "some")) (.cons (.con (.str "all")) .nil))))
 (.cons (.ret (.yes (.call 12 (.cons (.idx (.var 0) (.con (.int (2)))) (.cons (.fz (.bin .add (.var 1) (.fz (.lst (.cons (.idx (.var 0) (.con (.int (1)))) .nil))))) .nil)))))
 .nil)
 .nil)
(.cons (.ret (.yes (.fz (.lc2 (.var 4) (.mk (.name 3) (.vals (.sl (.var 0) (.yes (.con (.int (1)))) .no)) .no) (.mk (.name 4) (.vals (.call 12 (.cons (.var 3) (.cons (.var 1) .nil)))) .no) [3, 4] [4]))))
.nil))))
/-- 13: free_of(formula): 0 formula, 1 number -/
def b_free_of : Stms :=
 (.cons (.ret (.yes (.fz (.bi .sorted (.cons (.dc (.var 1) (.con (.bl true)) (.mk (.name 1) (.vals (.call 12 (.cons (.var 0) (.cons (.fz (.lst .nil)) .nil)))) .no) [1]) .nil)))))
.nil)
/-- 14: _law_stream(script): 0 script, 1 mixed, 2 cell -/
def b_law_stream : Stms :=
 (.cons (.asg (.name 1) (.con (.int (17))))
(.cons (.for_ (.name 2) (.vals (.var 0))
 (.cons (.asg (.name 1) (.bin .mod (.bi .int (.cons (.bin .add (.bin .add (.bin .mul (.var 1) (.con (.int (48271)))) (.bin .mod (.bi .int (.cons (.var 2) .nil)) (.con (.int (65521))))) (.con (.int (1)))) .nil)) (.con (.int (2147483647)))))
 .nil))
(.cons (.ret (.yes (.lst (.cons (.fz (.bi .list (.cons (.var 0) .nil))) (.cons (.con (.int (0))) (.cons (.con (.int (0))) (.cons (.var 1) .nil)))))))
.nil)))
/-- 15: _law_draw(stream, many): 0 stream, 1 many, 2 value -/
def b_law_draw : Stms :=
 (.cons (.ite (.and (.cmp .eq (.idx (.var 0) (.con (.int (1)))) (.con (.int (0)))) (.cmp .lt (.idx (.var 0) (.con (.int (2)))) (.bi .len (.cons (.idx (.var 0) (.con (.int (0)))) .nil))))
 (.cons (.asg (.sub (.var 0) (.con (.int (1)))) (.bi .abs (.cons (.bi .int (.cons (.idx (.idx (.var 0) (.con (.int (0)))) (.idx (.var 0) (.con (.int (2))))) .nil)) .nil)))
 (.cons (.asg (.sub (.var 0) (.con (.int (2)))) (.bin .add (.idx (.var 0) (.con (.int (2)))) (.con (.int (1)))))
 .nil))
 .nil)
(.cons (.ite (.cmp .eq (.idx (.var 0) (.con (.int (1)))) (.con (.int (0))))
 (.cons (.asg (.sub (.var 0) (.con (.int (3)))) (.bin .mod (.bi .int (.cons (.bin .add (.bin .mul (.idx (.var 0) (.con (.int (3)))) (.con (.int (48271)))) (.con (.int (11)))) .nil)) (.con (.int (2147483647)))))
 (.cons (.ret (.yes (.bin .mod (.bi .int (.cons (.bin .fdiv (.idx (.var 0) (.con (.int (3)))) (.con (.int (97)))) .nil)) (.var 1))))
 .nil))
 .nil)
(.cons (.asg (.name 2) (.bin .mod (.bi .int (.cons (.idx (.var 0) (.con (.int (1)))) .nil)) (.var 1)))
(.cons (.asg (.sub (.var 0) (.con (.int (1)))) (.bin .fdiv (.idx (.var 0) (.con (.int (1)))) (.var 1)))
(.cons (.ret (.yes (.var 2)))
.nil)))))
/-- 16: _law_pick(stream, rows): 0 stream, 1 rows -/
def b_law_pick : Stms :=
 (.cons (.ret (.yes (.idx (.var 1) (.call 15 (.cons (.var 0) (.cons (.bi .len (.cons (.var 1) .nil)) .nil))))))
.nil)
/-- 17: _law_same(told, due): 0 told, 1 due, 2 k -/
def b_law_same : Stms :=
 (.cons (.ite (.or (.isi (.var 1) [.tuple]) (.isi (.var 1) [.list]))
 (.cons (.ite (.or (.cmp .ne (.isi (.var 0) [.tuple]) (.isi (.var 1) [.tuple])) (.cmp .ne (.isi (.var 0) [.list]) (.isi (.var 1) [.list])))
  (.cons (.ret (.yes (.con (.bl false))))
  .nil)
  .nil)
 (.cons (.ret (.yes (.and (.cmp .eq (.bi .len (.cons (.var 0) .nil)) (.bi .len (.cons (.var 1) .nil))) (.bi .all (.cons (.fz (.lc (.call 17 (.cons (.idx (.var 0) (.var 2)) (.cons (.idx (.var 1) (.var 2)) .nil))) (.mk (.name 2) (.rng1 (.bi .len (.cons (.var 1) .nil))) .no) [2])) .nil)))))
 .nil))
 .nil)
(.cons (.ite (.cmp .isn (.var 1) (.con .non))
 (.cons (.ret (.yes (.cmp .isn (.var 0) (.con .non))))
 .nil)
 .nil)
(.cons (.ite (.isi (.var 1) [.str])
 (.cons (.ret (.yes (.and (.isi (.var 0) [.str]) (.cmp .eq (.var 0) (.var 1)))))
 .nil)
 .nil)
(.cons (.ret (.yes (.and (.isi (.var 0) [.int]) (.and (.cmp .eq (.isi (.var 0) [.bool]) (.isi (.var 1) [.bool])) (.cmp .eq (.var 0) (.var 1))))))
.nil))))
/-- 18: _law_says(told, due): 0 told, 1 due -/
def b_law_says : Stms :=
 (.cons (.ret (.yes (.and (.isi (.var 0) [.bool]) (.cmp .eq (.var 0) (.var 1)))))
.nil)
/-- 19: _law_term(stream, numbers, deep): 0 stream, 1 numbers, 2 deep, 3 pick, 4 parts, 5 k -/
def b_law_term : Stms :=
 (.cons (.asg (.name 3) (.call 15 (.cons (.var 0) (.cons (.con (.int (8))) .nil))))
(.cons (.ite (.or (.cmp .le (.var 2) (.con (.int (1)))) (.cmp .lt (.var 3) (.con (.int (4)))))
 (.cons (.ite (.and (.var 1) (.cmp .gt (.call 15 (.cons (.var 0) (.cons (.con (.int (5))) .nil))) (.con (.int (0)))))
  (.cons (.ret (.yes (.tup (.cons (.con (.str "var")) (.cons (.call 16 (.cons (.var 0) (.cons (.var 1) .nil))) .nil)))))
  .nil)
  .nil)
 (.cons (.ret (.yes (.call 16 (.cons (.var 0) (.cons (.fz (.lst (.cons (.tup (.cons (.con (.str "int")) (.cons (.con (.int (0))) .nil))) (.cons (.tup (.cons (.con (.str "int")) (.cons (.con (.int (1))) .nil))) (.cons (.tup (.cons (.con (.str "int")) (.cons (.neg (.con (.int (5)))) .nil))) (.cons (.tup (.cons (.con (.str "atom")) (.cons (.con (.str "a")) .nil))) (.cons (.tup (.cons (.con (.str "atom")) (.cons (.con (.str "nil")) .nil))) (.cons (.tup (.cons (.con (.str "atom")) (.cons (.con (.str "w0")) .nil))) .nil)))))))) .nil)))))
 .nil))
 .nil)
(.cons (.asg (.name 4) (.fz (.lc (.call 19 (.cons (.var 0) (.cons (.var 1) (.cons (.bin .sub (.var 2) (.con (.int (1)))) .nil)))) (.mk (.name 5) (.rng1 (.call 16 (.cons (.var 0) (.cons (.fz (.lst (.cons (.con (.int (1))) (.cons (.con (.int (1))) (.cons (.con (.int (2))) (.cons (.con (.int (2))) (.cons (.con (.int (3))) .nil))))))) .nil)))) .no) [5])))
(.cons (.ret (.yes (.tup (.cons (.con (.str "tuple")) (.cons (.call 16 (.cons (.var 0) (.cons (.fz (.lst (.cons (.con (.str "f")) (.cons (.con (.str "f")) (.cons (.con (.str "f")) (.cons (.con (.str "g")) .nil)))))) .nil))) (.cons (.bi .tuple (.cons (.var 4) .nil)) .nil))))))
.nil))))
/-- 20: _law_plain(stream, numbers, deep): 0 stream, 1 numbers, 2 deep, 3 pick -/
def b_law_plain : Stms :=
 (.cons (.asg (.name 3) (.call 15 (.cons (.var 0) (.cons (.con (.int (9))) .nil))))
(.cons (.ite (.or (.cmp .le (.var 2) (.con (.int (1)))) (.cmp .lt (.var 3) (.con (.int (4)))))
 (.cons (.ite (.cmp .eq (.call 15 (.cons (.var 0) (.cons (.con (.int (14))) .nil))) (.con (.int (0))))
  (.cons (.ret (.yes (.tup (.cons (.call 16 (.cons (.var 0) (.cons (.fz (.lst (.cons (.con (.str "true")) (.cons (.con (.str "false")) .nil)))) .nil))) .nil))))
  .nil)
  .nil)
 (.cons (.ret (.yes (.tup (.cons (.con (.str "same")) (.cons (.call 19 (.cons (.var 0) (.cons (.var 1) (.cons (.con (.int (3))) .nil)))) (.cons (.call 19 (.cons (.var 0) (.cons (.var 1) (.cons (.con (.int (3))) .nil)))) .nil))))))
 .nil))
 .nil)
(.cons (.ite (.cmp .lt (.var 3) (.con (.int (6))))
 (.cons (.ret (.yes (.tup (.cons (.con (.str "not")) (.cons (.call 20 (.cons (.var 0) (.cons (.var 1) (.cons (.bin .sub (.var 2) (.con (.int (1)))) .nil)))) .nil)))))
 .nil)
 .nil)
(.cons (.ret (.yes (.tup (.cons (.call 16 (.cons (.var 0) (.cons (.fz (.lst (.cons (.con (.str "and")) (.cons (.con (.str "or")) .nil)))) .nil))) (.cons (.call 20 (.cons (.var 0) (.cons (.var 1) (.cons (.bin .sub (.var 2) (.con (.int (1)))) .nil)))) (.cons (.call 20 (.cons (.var 0) (.cons (.var 1) (.cons (.bin .sub (.var 2) (.con (.int (1)))) .nil)))) .nil))))))
.nil))))
/-- 21: _law_any(stream, numbers, deep): 0 stream, 1 numbers, 2 deep, 3 pick, 4 number -/
def b_law_any : Stms :=
 (.cons (.asg (.name 3) (.call 15 (.cons (.var 0) (.cons (.con (.int (10))) .nil))))
(.cons (.ite (.or (.cmp .le (.var 2) (.con (.int (1)))) (.cmp .lt (.var 3) (.con (.int (3)))))
 (.cons (.ret (.yes (.call 20 (.cons (.var 0) (.cons (.var 1) (.cons (.con (.int (1))) .nil))))))
 .nil)
 .nil)
(.cons (.ite (.cmp .lt (.var 3) (.con (.int (5))))
 (.cons (.ret (.yes (.tup (.cons (.con (.str "not")) (.cons (.call 21 (.cons (.var 0) (.cons (.var 1) (.cons (.bin .sub (.var 2) (.con (.int (1)))) .nil)))) .nil)))))
 .nil)
 .nil)
(.cons (.ite (.cmp .lt (.var 3) (.con (.int (8))))
 (.cons (.ret (.yes (.tup (.cons (.call 16 (.cons (.var 0) (.cons (.fz (.lst (.cons (.con (.str "and")) (.cons (.con (.str "or")) .nil)))) .nil))) (.cons (.call 21 (.cons (.var 0) (.cons (.var 1) (.cons (.bin .sub (.var 2) (.con (.int (1)))) .nil)))) (.cons (.call 21 (.cons (.var 0) (.cons (.var 1) (.cons (.bin .sub (.var 2) (.con (.int (1)))) .nil)))) .nil))))))
 .nil)
 .nil)
(.cons (.asg (.name 4) (.call 16 (.cons (.var 0) (.cons (.fz (.lst (.cons (.con (.int (0))) (.cons (.con (.int (1))) (.cons (.con (.int (2))) (.cons (.con (.int (7))) (.cons (.con (.int (99))) .nil))))))) .nil))))
(.cons (.ret (.yes (.tup (.cons (.call 16 (.cons (.var 0) (.cons (.fz (.lst (.cons (.con (.str "some")) (.cons (.con (.str "all")) .nil)))) .nil))) (.cons (.var 4) (.cons (.call 21 (.cons (.var 0) (.cons (.fz (.bin .add (.var 1) (.fz (.lst (.cons (.var 4) .nil))))) (.cons (.bin .sub (.var 2) (.con (.int (1)))) .nil)))) .nil))))))
.nil))))))
/-- 22: _law_measure(value): 0 value, 1 size, 2 deep, 3 parts, 4 part, 5 more, 6 own -/
def b_law_measure : Stms :=
 (.cons (.asg (.name 1) (.con (.int (1))))
(.cons (.asg (.name 2) (.con (.int (0))))
(.cons (.asg (.name 3) (.ite (.cmp .eq (.idx (.var 0) (.con (.int (0)))) (.con (.str "tuple"))) (.idx (.var 0) (.con (.int (2)))) (.sl (.var 0) (.yes (.con (.int (1)))) .no)))
(.cons (.for_ (.name 4) (.vals (.var 3))
 (.cons (.ite (.isi (.var 4) [.tuple])
  (.cons (.asg (.tup (.cons (.name 5) (.cons (.name 6) .nil))) (.call 22 (.cons (.var 4) .nil)))
  (.cons (.asg (.name 1) (.bin .add (.var 1) (.var 5)))
  (.cons (.asg (.name 2) (.bi .max2 (.cons (.var 2) (.cons (.var 6) .nil))))
  .nil)))
  .nil)
 .nil))
(.cons (.ret (.yes (.tup (.cons (.var 1) (.cons (.bin .add (.var 2) (.con (.int (1)))) .nil)))))
.nil)))))
/-- 23: _law_variables(term): 0 term, 1 found, 2 part -/
def b_law_variables : Stms :=
 (.cons (.ite (.cmp .eq (.idx (.var 0) (.con (.int (0)))) (.con (.str "var")))
 (.cons (.ret (.yes (.fz (.lst (.cons (.idx (.var 0) (.con (.int (1)))) .nil)))))
 .nil)
 .nil)
(.cons (.asg (.name 1) (.lst .nil))
(.cons (.ite (.cmp .eq (.idx (.var 0) (.con (.int (0)))) (.con (.str "tuple")))
 (.cons (.for_ (.name 2) (.vals (.idx (.var 0) (.con (.int (2)))))
  (.cons (.exp (.bm .extend (.var 1) (.cons (.call 23 (.cons (.var 2) .nil)) .nil)))
  .nil))
 .nil)
 .nil)
(.cons (.ret (.yes (.fz (.var 1))))
.nil))))
/-- 24: _law_free(formula): 0 formula, 1 word, 2 found, 3 part, 4 k, 5 number -/
def b_law_free : Stms :=
 (.cons (.asg (.name 1) (.idx (.var 0) (.con (.int (0)))))
(.cons (.asg (.name 2) (.lst .nil))
(.cons (.ite (.cmp .eq (.var 1) (.con (.str "same")))
 (.cons (.asg (.name 2) (.bin .add (.call 23 (.cons (.idx (.var 0) (.con (.int (1)))) .nil)) (.call 23 (.cons (.idx (.var 0) (.con (.int (2)))) .nil))))
 .nil)
 (.cons (.ite (.cmp .inn (.var 1) (.tup (.cons (.con (.str "some")) (.cons (.con (.str "all")) .nil))))
  (.cons (.asg (.name 2) (.lc (.var 5) (.mk (.name 5) (.vals (.call 24 (.cons (.idx (.var 0) (.con (.int (2)))) .nil))) (.yes (.cmp .ne (.var 5) (.idx (.var 0) (.con (.int (1))))))) [5]))
  .nil)
  (.cons (.for_ (.name 3) (.vals (.sl (.var 0) (.yes (.con (.int (1)))) .no))
   (.cons (.exp (.bm .extend (.var 2) (.cons (.call 24 (.cons (.var 3) .nil)) .nil)))
   .nil))
  .nil))
 .nil))
(.cons (.ret (.yes (.fz (.bi .sorted (.cons (.fz (.lc (.idx (.var 2) (.var 4)) (.mk (.name 4) (.rng1 (.bi .len (.cons (.var 2) .nil))) (.yes (.cmp .nin (.idx (.var 2) (.var 4)) (.fz (.sl (.var 2) .no (.yes (.var 4))))))) [4])) .nil)))))
.nil))))
/-- 25: _law_is_number(value, low, high): 0 value, 1 low, 2 high -/
def b_law_is_number : Stms :=
 (.cons (.ret (.yes (.and (.isi (.var 0) [.int]) (.and (.not (.isi (.var 0) [.bool])) (.chn .le .le (.var 1) (.var 0) (.var 2))))))
.nil)
/-- 26: _law_is_atom(value): 0 value, 1 small, 2 sign -/
def b_law_is_atom : Stms :=
 (.cons (.asg (.name 1) (.con (.str "abcdefghijklmnopqrstuvwxyz")))
(.cons (.ite (.or (.not (.isi (.var 0) [.str])) (.or (.not (.chn .le .le (.con (.int (1))) (.bi .len (.cons (.var 0) .nil)) (.con (.int (12))))) (.cmp .nin (.idx (.var 0) (.con (.int (0)))) (.var 1))))
 (.cons (.ret (.yes (.con (.bl false))))
 .nil)
 .nil)
(.cons (.ret (.yes (.bi .all (.cons (.fz (.lc (.cmp .inn (.var 2) (.bin .add (.var 1) (.con (.str "0123456789")))) (.mk (.name 2) (.vals (.var 0)) .no) [2])) .nil))))
.nil)))
/-- 27: _law_is_term(value): 0 value, 1 part -/
def b_law_is_term : Stms :=
 (.cons (.ite (.or (.not (.isi (.var 0) [.tuple])) (.or (.cmp .lt (.bi .len (.cons (.var 0) .nil)) (.con (.int (2)))) (.not (.isi (.idx (.var 0) (.con (.int (0)))) [.str]))))
 (.cons (.ret (.yes (.con (.bl false))))
 .nil)
 .nil)
(.cons (.ite (.cmp .eq (.idx (.var 0) (.con (.int (0)))) (.con (.str "var")))
 (.cons (.ret (.yes (.and (.cmp .eq (.bi .len (.cons (.var 0) .nil)) (.con (.int (2)))) (.call 25 (.cons (.idx (.var 0) (.con (.int (1)))) (.cons (.con (.int (0))) (.cons (.con (.int (99))) .nil)))))))
 .nil)
 .nil)
(.cons (.ite (.cmp .eq (.idx (.var 0) (.con (.int (0)))) (.con (.str "int")))
 (.cons (.ret (.yes (.and (.cmp .eq (.bi .len (.cons (.var 0) .nil)) (.con (.int (2)))) (.call 25 (.cons (.idx (.var 0) (.con (.int (1)))) (.cons (.neg (.bin .pow (.con (.int (10))) (.con (.int (9))))) (.cons (.bin .pow (.con (.int (10))) (.con (.int (9)))) .nil)))))))
 .nil)
 .nil)
(.cons (.ite (.cmp .eq (.idx (.var 0) (.con (.int (0)))) (.con (.str "atom")))
 (.cons (.ret (.yes (.and (.cmp .eq (.bi .len (.cons (.var 0) .nil)) (.con (.int (2)))) (.call 26 (.cons (.idx (.var 0) (.con (.int (1)))) .nil)))))
 .nil)
 .nil)
(.cons (.ite (.or (.cmp .ne (.idx (.var 0) (.con (.int (0)))) (.con (.str "tuple"))) (.or (.cmp .ne (.bi .len (.cons (.var 0) .nil)) (.con (.int (3)))) (.or (.not (.call 26 (.cons (.idx (.var 0) (.con (.int (1)))) .nil))) (.not (.isi (.idx (.var 0) (.con (.int (2)))) [.tuple])))))
 (.cons (.ret (.yes (.con (.bl false))))
 .nil)
 .nil)
(.cons (.ret (.yes (.and (.chn .le .le (.con (.int (1))) (.bi .len (.cons (.idx (.var 0) (.con (.int (2)))) .nil)) (.con (.int (6)))) (.bi .all (.cons (.fz (.lc (.call 27 (.cons (.var 1) .nil)) (.mk (.name 1) (.vals (.idx (.var 0) (.con (.int (2))))) .no) [1])) .nil)))))
.nil))))))
/-- 28: _law_is_shaped(value): 0 value, 1 word, 2 many, 3 part -/
def b_law_is_shaped : Stms :=
 (.cons (.ite (.or (.not (.isi (.var 0) [.tuple])) (.or (.cmp .eq (.var 0) (.tup .nil)) (.not (.isi (.idx (.var 0) (.con (.int (0)))) [.str]))))
 (.cons (.ret (.yes (.con (.bl false))))
 .nil)
 .nil)
(.cons (.asg (.name 1) (.idx (.var 0) (.con (.int (0)))))
(.cons (.asg (.name 2) (.bm .get2 (.dic (.cons (.con (.str "true")) (.cons (.con (.int (1))) (.cons (.con (.str "false")) (.cons (.con (.int (1))) (.cons (.con (.str "not")) (.cons (.con (.int (2))) (.cons (.con (.str "same")) (.cons (.con (.int (3))) (.cons (.con (.str "and")) (.cons (.con (.int (3))) (.cons (.con (.str "or")) (.cons (.con (.int (3))) (.cons (.con (.str "some")) (.cons (.con (.int (3))) (.cons (.con (.str "all")) (.cons (.con (.int (3))) .nil))))))))))))))))) (.cons (.var 1) (.cons (.con (.int (0))) .nil))))
(.cons (.ite (.cmp .ne (.bi .len (.cons (.var 0) .nil)) (.var 2))
 (.cons (.ret (.yes (.con (.bl false))))
 .nil)
 .nil)
(.cons (.ite (.cmp .eq (.var 1) (.con (.str "same")))
 (.cons (.ret (.yes (.and (.call 27 (.cons (.idx (.var 0) (.con (.int (1)))) .nil)) (.call 27 (.cons (.idx (.var 0) (.con (.int (2)))) .nil)))))
 .nil)
 .nil)
(.cons (.ite (.cmp .inn (.var 1) (.tup (.cons (.con (.str "some")) (.cons (.con (.str "all")) .nil))))
 (.cons (.ret (.yes (.and (.call 25 (.cons (.idx (.var 0) (.con (.int (1)))) (.cons (.con (.int (0))) (.cons (.con (.int (99))) .nil)))) (.call 28 (.cons (.idx (.var 0) (.con (.int (2)))) .nil)))))
 .nil)
 .nil)
(.cons (.ret (.yes (.bi .all (.cons (.fz (.lc (.call 28 (.cons (.var 3) .nil)) (.mk (.name 3) (.vals (.sl (.var 0) (.yes (.con (.int (1)))) .no)) .no) [3])) .nil))))
.nil)))))))
/-- 29: _law_due(value): 0 value, 1 size, 2 deep -/
def b_law_due : Stms :=
 (.cons (.ite (.not (.call 28 (.cons (.var 0) .nil)))
 (.cons (.ret (.yes (.con (.bl false))))
 .nil)
 .nil)
(.cons (.asg (.tup (.cons (.name 1) (.cons (.name 2) .nil))) (.call 22 (.cons (.var 0) .nil)))
(.cons (.ret (.yes (.and (.cmp .le (.var 1) (.con (.int (120)))) (.cmp .le (.var 2) (.con (.int (20)))))))
.nil)))
/-- 30: _law_odd(stream): 0 stream, 1 rows -/
def b_law_odd : Stms :=
 (.cons (.asg (.name 1) (.fz (.lst (.cons (.con .non) (.cons (.con (.bl true)) (.cons (.con (.int (0))) (.cons (.con (.int (99))) (.cons (.con (.int (100))) (.cons (.neg (.con (.int (1)))) (.cons (.bin .pow (.con (.int (10))) (.con (.int (9)))) (.cons (.bin .add (.bin .pow (.con (.int (10))) (.con (.int (9)))) (.con (.int (1)))) (.cons (.con (.str "a")) (.cons (.con (.str "A")) (.cons (.con (.str "")) (.cons (.con (.str "abcdefghijklm")) (.cons (.con (.str "a1")) .nil))))))))))))))))
(.cons (.ret (.yes (.call 16 (.cons (.var 0) (.cons (.fz (.bin .add (.var 1) (.fz (.lst (.cons (.tup .nil) (.cons (.tup (.cons (.con (.str "true")) .nil)) (.cons (.tup (.cons (.con (.str "var")) (.cons (.con (.int (1))) .nil))) (.cons (.tup (.cons (.con (.str "var")) (.cons (.con (.bl true)) .nil))) (.cons (.tup (.cons (.con (.str "int")) (.cons (.bin .add (.bin .pow (.con (.int (10))) (.con (.int (9)))) (.con (.int (1)))) .nil))) (.cons (.fz (.lst .nil)) (.cons (.tup (.cons (.con (.str "name")) (.cons (.con (.str "a")) (.cons (.con (.int (1))) .nil)))) (.cons (.tup (.cons (.con (.str "tuple")) (.cons (.con (.str "f")) (.cons (.tup .nil) .nil)))) .nil)))))))))))) .nil)))))
.nil))
/-- 31: _law_changed(stream, value): 0 stream, 1 value, 2 at, 3 part -/
def b_law_changed : Stms :=
 (.cons (.asg (.name 2) (.call 15 (.cons (.var 0) (.cons (.bin .add (.bi .len (.cons (.var 1) .nil)) (.con (.int (1)))) .nil))))
(.cons (.ite (.cmp .eq (.var 2) (.bi .len (.cons (.var 1) .nil)))
 (.cons (.ret (.yes (.call 16 (.cons (.var 0) (.cons (.fz (.lst (.cons (.bin .add (.var 1) (.tup (.cons (.call 30 (.cons (.var 0) .nil)) .nil))) (.cons (.sl (.var 1) .no (.yes (.bin .sub (.bi .len (.cons (.var 1) .nil)) (.con (.int (1)))))) (.cons (.fz (.bi .list (.cons (.var 1) .nil))) .nil))))) .nil)))))
 .nil)
 .nil)
(.cons (.asg (.name 3) (.idx (.var 1) (.var 2)))
(.cons (.ite (.and (.isi (.var 3) [.tuple]) (.and (.cmp .ne (.var 3) (.tup .nil)) (.cmp .gt (.call 15 (.cons (.var 0) (.cons (.con (.int (4))) .nil))) (.con (.int (0))))))
 (.cons (.asg (.name 3) (.call 31 (.cons (.var 0) (.cons (.var 3) .nil))))
 .nil)
 (.cons (.asg (.name 3) (.call 30 (.cons (.var 0) .nil)))
 .nil))
(.cons (.ret (.yes (.bin .add (.bin .add (.sl (.var 1) .no (.yes (.var 2))) (.tup (.cons (.var 3) .nil))) (.sl (.var 1) (.yes (.bin .add (.var 2) (.con (.int (1))))) .no))))
.nil)))))
/-- 32: _law_great(stream): 0 stream, 1 formula, 2 rows, 3 k -/
def b_law_great : Stms :=
 (.cons (.asg (.name 1) (.tup (.cons (.con (.str "true")) .nil)))
(.cons (.ite (.cmp .eq (.call 15 (.cons (.var 0) (.cons (.con (.int (2))) .nil))) (.con (.int (0))))
 (.cons (.for_ (.name 3) (.rng1 (.bin .add (.con (.int (17))) (.call 15 (.cons (.var 0) (.cons (.con (.int (5))) .nil)))))
  (.cons (.asg (.name 1) (.call 16 (.cons (.var 0) (.cons (.fz (.lst (.cons (.tup (.cons (.con (.str "not")) (.cons (.var 1) .nil))) (.cons (.tup (.cons (.con (.str "some")) (.cons (.con (.int (1))) (.cons (.var 1) .nil)))) (.cons (.tup (.cons (.con (.str "and")) (.cons (.var 1) (.cons (.tup (.cons (.con (.str "true")) .nil)) .nil)))) .nil))))) .nil))))
  .nil))
 (.cons (.ret (.yes (.var 1)))
 .nil))
 .nil)
(.cons (.asg (.name 2) (.bin .mul (.fz (.lst (.cons (.tup (.cons (.con (.str "false")) .nil)) .nil))) (.bin .add (.con (.int (58))) (.call 15 (.cons (.var 0) (.cons (.con (.int (5))) .nil))))))
(.cons (.ite (.cmp .eq (.call 15 (.cons (.var 0) (.cons (.con (.int (2))) .nil))) (.con (.int (0))))
 (.cons (.asg (.sub (.var 2) (.con (.int (0)))) (.tup (.cons (.con (.str "not")) (.cons (.tup (.cons (.con (.str "true")) .nil)) .nil))))
 .nil)
 .nil)
(.cons (.whl (.cmp .gt (.bi .len (.cons (.var 2) .nil)) (.con (.int (1))))
 (.cons (.asg (.name 2) (.bin .add (.fz (.sl (.var 2) (.yes (.con (.int (2)))) .no)) (.fz (.lst (.cons (.tup (.cons (.con (.str "or")) (.cons (.idx (.var 2) (.con (.int (0)))) (.cons (.idx (.var 2) (.con (.int (1)))) .nil)))) .nil)))))
 .nil))
(.cons (.ret (.yes (.idx (.var 2) (.con (.int (0))))))
.nil))))))
/-- 33: _law_is_refused(value): 0 value -/
def b_law_is_refused : Stms :=
 (.cons (.try_
 (.cons (.exp (.call 10 (.cons (.var 0) .nil)))
 (.cons (.ret (.yes (.con (.bl false))))
 .nil))
 (.cons [2] none (.cons (.ret (.yes (.con (.bl true)))) .nil) .nil))
.nil)
/-- 34: law(script): 0 script, 1 stream, 2 value, 3 pick, 4 due -/
def b_law : Stms :=
 (.cons (.asg (.name 1) (.call 14 (.cons (.var 0) .nil)))
(.cons (.asg (.name 2) (.call 21 (.cons (.var 1) (.cons (.fz (.lst (.cons (.con (.int (0))) (.cons (.con (.int (3))) .nil)))) (.cons (.con (.int (4))) .nil)))))
(.cons (.asg (.name 3) (.call 15 (.cons (.var 1) (.cons (.con (.int (5))) .nil))))
(.cons (.ite (.cmp .eq (.var 3) (.con (.int (0))))
 (.cons (.asg (.name 2) (.call 32 (.cons (.var 1) .nil)))
 .nil)
 (.cons (.ite (.cmp .gt (.var 3) (.con (.int (1))))
  (.cons (.asg (.name 2) (.call 31 (.cons (.var 1) (.cons (.var 2) .nil))))
  .nil)
  .nil)
 .nil))
(.cons (.asg (.name 4) (.call 29 (.cons (.var 2) .nil)))
(.cons (.ite (.or (.not (.call 18 (.cons (.call 9 (.cons (.var 2) .nil)) (.cons (.var 4) .nil)))) (.cmp .eq (.call 33 (.cons (.var 2) .nil)) (.var 4)))
 (.cons (.ret (.yes (.con (.bl false))))
 .nil)
 .nil)
(.cons (.ret (.yes (.or (.not (.var 4)) (.call 17 (.cons (.call 13 (.cons (.var 2) .nil)) (.cons (.call 24 (.cons (.var 2) .nil)) .nil))))))
.nil)))))))
def fns : List Fn := [⟨1, 1, b_is_whole, false⟩,
  ⟨2, 1, b_is_atom, false⟩,
  ⟨1, 1, b_is_count, false⟩,
  ⟨4, 2, b_is_node, false⟩,
  ⟨1, 1, b_Sizes____init, false⟩,
  ⟨1, 1, b_Sizes__more, false⟩,
  ⟨1, 1, b_is_variable, false⟩,
  ⟨4, 3, b_is_term, false⟩,
  ⟨6, 3, b_is_part, false⟩,
  ⟨1, 1, b_is_formula, true⟩,
  ⟨1, 1, b_check_formula, false⟩,
  ⟨3, 1, b_variables_of, false⟩,
  ⟨6, 2, b_free_numbers, false⟩,
  ⟨2, 1, b_free_of, true⟩,
  ⟨3, 1, b_law_stream, false⟩,
  ⟨3, 2, b_law_draw, false⟩,
  ⟨2, 2, b_law_pick, false⟩,
  ⟨3, 2, b_law_same, false⟩,
  ⟨2, 2, b_law_says, false⟩,
  ⟨6, 3, b_law_term, false⟩,
  ⟨4, 3, b_law_plain, false⟩,
  ⟨5, 3, b_law_any, false⟩,
  ⟨7, 1, b_law_measure, false⟩,
  ⟨3, 1, b_law_variables, true⟩,
  ⟨6, 1, b_law_free, true⟩,
  ⟨3, 3, b_law_is_number, false⟩,
  ⟨3, 1, b_law_is_atom, false⟩,
  ⟨2, 1, b_law_is_term, false⟩,
  ⟨4, 1, b_law_is_shaped, true⟩,
  ⟨3, 1, b_law_due, false⟩,
  ⟨2, 1, b_law_odd, false⟩,
  ⟨4, 2, b_law_changed, false⟩,
  ⟨4, 1, b_law_great, true⟩,
  ⟨1, 1, b_law_is_refused, false⟩,
  ⟨5, 1, b_law, false⟩]
def n_is_whole : List Str := ["value"]
def n_is_atom : List Str := ["value", "sign"]
def n_is_count : List Str := ["value"]
def n_is_node : List Str := ["value", "count", "word", "part"]
def n_Sizes____init : List Str := ["self"]
def n_Sizes__more : List Str := ["self"]
def n_is_variable : List Str := ["value"]
def n_is_term : List Str := ["value", "sizes", "deep", "part"]
def n_is_part : List Str := ["value", "sizes", "deep", "word", "rest", "part"]
def n_is_formula : List Str := ["value"]
def n_check_formula : List Str := ["value"]
def n_variables_of : List Str := ["term", "part", "number"]
def n_free_numbers : List Str := ["formula", "bound", "word", "part", "number", "term"]
def n_free_of : List Str := ["formula", "number"]
def n_law_stream : List Str := ["script", "mixed", "cell"]
def n_law_draw : List Str := ["stream", "many", "value"]
def n_law_pick : List Str := ["stream", "rows"]
def n_law_same : List Str := ["told", "due", "k"]
def n_law_says : List Str := ["told", "due"]
def n_law_term : List Str := ["stream", "numbers", "deep", "pick", "parts", "k"]
def n_law_plain : List Str := ["stream", "numbers", "deep", "pick"]
def n_law_any : List Str := ["stream", "numbers", "deep", "pick", "number"]
def n_law_measure : List Str := ["value", "size", "deep", "parts", "part", "more", "own"]
def n_law_variables : List Str := ["term", "found", "part"]
def n_law_free : List Str := ["formula", "word", "found", "part", "k", "number"]
def n_law_is_number : List Str := ["value", "low", "high"]
def n_law_is_atom : List Str := ["value", "small", "sign"]
def n_law_is_term : List Str := ["value", "part"]
def n_law_is_shaped : List Str := ["value", "word", "many", "part"]
def n_law_due : List Str := ["value", "size", "deep"]
def n_law_odd : List Str := ["stream", "rows"]
def n_law_changed : List Str := ["stream", "value", "at", "part"]
def n_law_great : List Str := ["stream", "formula", "rows", "k"]
def n_law_is_refused : List Str := ["value"]
def n_law : List Str := ["script", "stream", "value", "pick", "due"]
def slots : List (List Str) := [n_is_whole, n_is_atom, n_is_count, n_is_node, n_Sizes____init, n_Sizes__more, n_is_variable, n_is_term, n_is_part, n_is_formula, n_check_formula, n_variables_of, n_free_numbers, n_free_of, n_law_stream, n_law_draw, n_law_pick, n_law_same, n_law_says, n_law_term, n_law_plain, n_law_any, n_law_measure, n_law_variables, n_law_free, n_law_is_number, n_law_is_atom, n_law_is_term, n_law_is_shaped, n_law_due, n_law_odd, n_law_changed, n_law_great, n_law_is_refused, n_law]
def pk (defs : List He.DefD) : Pk where
  defs := defs
  N := slots
  fns := fns
  ins := [("Sizes", ["count"])]
  exs := ["LeateverError", "BadFormula"]
  isa := fun a b => decide ((a, b) ∈ ([(1, 1), (2, 1), (2, 2)] : List (Nat × Nat)))
  con := [("DIGITS", (.str "0123456789")), ("MOST_ATOM", (.int (12))), ("MOST_DEEP", (.int (20))), ("MOST_NUMBER", (.int (1000000000))), ("MOST_PARTS", (.int (6))), ("MOST_SIZE", (.int (120))), ("MOST_VARIABLE", (.int (99))), ("SMALL", (.str "abcdefghijklmnopqrstuvwxyz"))]
  tps := []
  free := ["abs", "all", "bool", "int", "isinstance", "len", "list", "max", "range", "sorted", "str", "tuple"]

/-! formulas as trees -/
def isWhole : D → Bool
  | .int _ => true
  | _ => false
def smalls : Str := "abcdefghijklmnopqrstuvwxyz"
def digits : Str := "0123456789"
def isSmall (c : Nat) : Bool := decide (c ∈ smalls.cps.toList)
def isDigit (c : Nat) : Bool := decide (c ∈ digits.cps.toList)
def isAtom : D → Bool
  | .str s => decide (1 ≤ s.length ∧ s.length ≤ 12) && (s.cps.toList.take 1).all isSmall && s.cps.toList.all fun c => isSmall c || isDigit c
  | _ => false
def okSgn : D → D
  | .str ⟨a⟩ => .bl (a.toList.all fun c => isSmall c || isDigit c)
  | _ => .non
def isCount : D → Bool
  | .int i => decide (0 ≤ i ∧ i ≤ 1000000000)
  | _ => false
def isVar : D → Bool
  | .int i => decide (0 ≤ i ∧ i ≤ 99)
  | _ => false
/-- ('int', i), ('atom', text) -/
def isLeaf (w : Str) (xs : List D) : Bool := match xs with
  | [x] => if w = "int" then (match x with
    | .int i => decide ((i.natAbs : Int) ≤ 1000000000)
    | _ => false) else isAtom x
  | _ => false
mutual
/-- no references; texts and tuples of a length -/
def pl : D → Bool
  | .ref _ => false
  | .str s => decide (s.length ≤ lim)
  | .tup xs => decide (xs.length ≤ lim) && pls xs
  | .lst xs => decide (xs.length ≤ lim) && pls xs
  | _ => true
def pls : List D → Bool
  | [] => true
  | x :: xs => pl x && pls xs
end
theorem pls_mem {xs : List D} (h : pls xs = true) {x : D} (hx : x ∈ xs) : pl x = true := by
  induction xs with
  | nil => cases hx
  | cons y ys ih =>
    simp only [pls, Bool.and_eq_true] at h
    rcases List.mem_cons.mp hx with rfl | hx
    · exact h.1
    · exact ih h.2 hx
theorem depDs_mem {xs : List D} {n : Nat} (h : depDs xs ≤ n) {x : D} (hx : x ∈ xs) : depD x ≤ n := by
  induction xs with
  | nil => cases hx
  | cons y ys ih =>
    simp only [depDs] at h
    rcases List.mem_cons.mp hx with rfl | hx
    · omega
    · exact ih (by omega) hx
theorem pl_ref {v : D} (h : pl v = true) : ∀ n, v ≠ .ref n := fun n e => by rw [e] at h; cases h
theorem pl_str {v : D} (h : pl v = true) : ∀ z, v = .str z → z.length ≤ lim := fun z e => by
  rw [e] at h
  simpa [pl] using h
inductive Tm where
  | var (n : Int) | int (n : Int) | atom (s : Str) | tup (s : Str) (ps : List Tm)
inductive Fm where
  | tt | ff | same (a b : Tm) | not (f : Fm) | and (f g : Fm) | or (f g : Fm) | some (n : Int) (f : Fm) | all (n : Int) (f : Fm)
mutual
def Tm.d : Tm → D
  | .var n => .tup [.str "var", .int n]
  | .int n => .tup [.str "int", .int n]
  | .atom s => .tup [.str "atom", .str s]
  | .tup s ps => .tup [.str "tuple", .str s, .tup (Tm.ds ps)]
def Tm.ds : List Tm → List D
  | [] => []
  | t :: ts => t.d :: Tm.ds ts
end
def Fm.d : Fm → D
  | .tt => .tup [.str "true"]
  | .ff => .tup [.str "false"]
  | .same a b => .tup [.str "same", a.d, b.d]
  | .not f => .tup [.str "not", f.d]
  | .and f g => .tup [.str "and", f.d, g.d]
  | .or f g => .tup [.str "or", f.d, g.d]
  | .some n f => .tup [.str "some", .int n, f.d]
  | .all n f => .tup [.str "all", .int n, f.d]
mutual
def Tm.size : Tm → Nat
  | .tup _ ps => Tm.sizes ps + 1
  | _ => 1
def Tm.sizes : List Tm → Nat
  | [] => 0
  | t :: ts => t.size + Tm.sizes ts
end
mutual
def Tm.deep : Tm → Nat
  | .tup _ ps => Tm.deeps ps + 1
  | _ => 1
def Tm.deeps : List Tm → Nat
  | [] => 0
  | t :: ts => max t.deep (Tm.deeps ts)
end
def Fm.size : Fm → Nat
  | .tt | .ff => 1
  | .same a b => a.size + b.size + 1
  | .not f | .some _ f | .all _ f => f.size + 1
  | .and f g | .or f g => f.size + g.size + 1
def Fm.deep : Fm → Nat
  | .tt | .ff => 1
  | .same a b => max a.deep b.deep + 1
  | .not f | .some _ f | .all _ f => f.deep + 1
  | .and f g | .or f g => max f.deep g.deep + 1
theorem ds_len (ps : List Tm) : (Tm.ds ps).length = ps.length := by
  induction ps with
  | nil => rfl
  | cons t ts ih => simp [Tm.ds, ih]
/-! what the law takes as a term, a formula -/
def isBig : D → Bool
  | .int i => decide (-1000000000 ≤ i ∧ i ≤ 1000000000)
  | _ => false
mutual
def shT : D → Bool
  | .tup [.str w, a] => if w = "var" then isVar a else if w = "int" then isBig a else if w = "atom" then isAtom a else false
  | .tup [.str w, a, .tup ps] => decide (w = "tuple") && isAtom a && decide (1 ≤ ps.length ∧ ps.length ≤ 6) && shTs ps
  | _ => false
def shTs : List D → Bool
  | [] => true
  | x :: xs => shT x && shTs xs
end
def shF : D → Bool
  | .tup [.str w] => decide (w = "true" ∨ w = "false")
  | .tup [.str w, a] => decide (w = "not") && shF a
  | .tup [.str w, a, b] => if w = "same" then shT a && shT b else if w = "and" ∨ w = "or" then shF a && shF b else if w = "some" ∨ w = "all" then isVar a && shF b else false
  | _ => false
mutual
/-- terms that are right -/
def Tm.ok : Tm → Bool
  | .var n => decide (0 ≤ n ∧ n ≤ 99)
  | .int n => decide (-1000000000 ≤ n ∧ n ≤ 1000000000)
  | .atom s => isAtom (.str s)
  | .tup s ps => isAtom (.str s) && decide (1 ≤ ps.length ∧ ps.length ≤ 6) && Tm.oks ps
def Tm.oks : List Tm → Bool
  | [] => true
  | t :: ts => t.ok && Tm.oks ts
end
def Fm.ok : Fm → Bool
  | .tt | .ff => true
  | .same a b => a.ok && b.ok
  | .not f => f.ok
  | .and f g | .or f g => f.ok && g.ok
  | .some n f | .all n f => decide (0 ≤ n ∧ n ≤ 99) && f.ok
theorem isVar_iff {a : D} (h : isVar a = true) : ∃ n : Int, a = .int n ∧ 0 ≤ n ∧ n ≤ 99 := by
  cases a with
  | int n => exact ⟨n, rfl, by simpa [isVar] using h⟩
  | _ => simp [isVar] at h
theorem isBig_iff {a : D} (h : isBig a = true) : ∃ n : Int, a = .int n ∧ -1000000000 ≤ n ∧ n ≤ 1000000000 := by
  cases a with
  | int n => exact ⟨n, rfl, by simpa [isBig] using h⟩
  | _ => simp [isBig] at h
theorem isAtom_iff {a : D} (h : isAtom a = true) : ∃ s : Str, a = .str s := by
  cases a with
  | str s => exact ⟨s, rfl⟩
  | _ => simp [isAtom] at h
theorem shT_z1 (x : D) : shT (.tup [x]) = false := by cases x <;> rfl
theorem shT_z4 (x y z u : D) (r : List D) : shT (.tup (x :: y :: z :: u :: r)) = false := by cases x <;> cases z <;> rfl
mutual
theorem shT_tm : ∀ d : D, shT d = true → ∃ t : Tm, t.ok = true ∧ t.d = d
  | .tup [.str w, a], h => by
    simp only [shT] at h
    split at h
    · obtain ⟨n, rfl, h1, h2⟩ := isVar_iff h
      subst_vars
      exact ⟨.var n, by simp [Tm.ok, h1, h2], rfl⟩
    · split at h
      · obtain ⟨n, rfl, h1, h2⟩ := isBig_iff h
        subst_vars
        exact ⟨.int n, by simp [Tm.ok, h1, h2], rfl⟩
      · split at h
        · obtain ⟨s, rfl⟩ := isAtom_iff h
          subst_vars
          exact ⟨.atom s, by simpa [Tm.ok] using h, rfl⟩
        · cases h
  | .tup [.str w, a, .tup ps], h => by
    simp only [shT, Bool.and_eq_true, decide_eq_true_eq] at h
    obtain ⟨s, rfl⟩ := isAtom_iff h.1.1.2
    obtain ⟨ts, h1, h2⟩ := shTs_tm ps h.2
    obtain ⟨⟨⟨rfl, h3⟩, h4⟩, _⟩ := h
    refine ⟨.tup s ts, ?_, by simp [Tm.d, h2]⟩
    have : ts.length = ps.length := by rw [← h2, ds_len]
    simp [Tm.ok, h1, h3, this, h4]
  | .non, h | .bl _, h | .int _, h | .str _, h | .lst _, h | .ref _, h | .tup [], h => by simp [shT] at h
  | .tup [x], h => by rw [shT_z1] at h; cases h
  | .tup (.non :: _ :: _), h | .tup (.bl _ :: _ :: _), h | .tup (.int _ :: _ :: _), h | .tup (.tup _ :: _ :: _), h | .tup (.lst _ :: _ :: _), h | .tup (.ref _ :: _ :: _), h => by simp [shT] at h
  | .tup [.str _, _, .non], h | .tup [.str _, _, .bl _], h | .tup [.str _, _, .int _], h | .tup [.str _, _, .str _], h | .tup [.str _, _, .lst _], h | .tup [.str _, _, .ref _], h => by simp [shT] at h
  | .tup (.str _ :: _ :: _ :: _ :: _), h => by rw [shT_z4] at h; cases h
termination_by d => sizeOf d
theorem shTs_tm : ∀ ds : List D, shTs ds = true → ∃ ts : List Tm, Tm.oks ts = true ∧ Tm.ds ts = ds
  | [], _ => ⟨[], rfl, rfl⟩
  | x :: xs, h => by
    simp only [shTs, Bool.and_eq_true] at h
    obtain ⟨t, h1, h2⟩ := shT_tm x h.1
    obtain ⟨ts, h3, h4⟩ := shTs_tm xs h.2
    exact ⟨t :: ts, by simp [Tm.oks, h1, h3], by simp [Tm.ds, h2, h4]⟩
termination_by ds => sizeOf ds
end
theorem shF_fm : ∀ d : D, shF d = true → ∃ f : Fm, f.ok = true ∧ f.d = d
  | .tup [.str w], h => by
    simp only [shF, decide_eq_true_eq] at h
    rcases h with rfl | rfl
    · exact ⟨.tt, rfl, rfl⟩
    · exact ⟨.ff, rfl, rfl⟩
  | .tup [.str w, a], h => by
    simp only [shF, Bool.and_eq_true, decide_eq_true_eq] at h
    obtain ⟨rfl, h⟩ := h
    obtain ⟨f, h1, h2⟩ := shF_fm a h
    exact ⟨.not f, by simp [Fm.ok, h1], by simp [Fm.d, h2]⟩
  | .tup [.str w, a, b], h => by
    simp only [shF] at h
    split at h
    · subst_vars
      simp only [Bool.and_eq_true] at h
      obtain ⟨s, h1, h2⟩ := shT_tm a h.1
      obtain ⟨t, h3, h4⟩ := shT_tm b h.2
      exact ⟨.same s t, by simp [Fm.ok, h1, h3], by simp [Fm.d, h2, h4]⟩
    · split at h
      · simp only [Bool.and_eq_true] at h
        obtain ⟨f, h1, h2⟩ := shF_fm a h.1
        obtain ⟨g, h3, h4⟩ := shF_fm b h.2
        rename_i hw
        rcases hw with rfl | rfl
        · exact ⟨.and f g, by simp [Fm.ok, h1, h3], by simp [Fm.d, h2, h4]⟩
        · exact ⟨.or f g, by simp [Fm.ok, h1, h3], by simp [Fm.d, h2, h4]⟩
      · split at h
        · simp only [Bool.and_eq_true] at h
          obtain ⟨n, rfl, n1, n2⟩ := isVar_iff h.1
          obtain ⟨g, h3, h4⟩ := shF_fm b h.2
          rename_i hw
          rcases hw with rfl | rfl
          · exact ⟨.some n g, by simp [Fm.ok, n1, n2, h3], by simp [Fm.d, h4]⟩
          · exact ⟨.all n g, by simp [Fm.ok, n1, n2, h3], by simp [Fm.d, h4]⟩
        · cases h
  | .non, h | .bl _, h | .int _, h | .str _, h | .lst _, h | .ref _, h | .tup [], h => by simp [shF] at h
  | .tup (.non :: _), h | .tup (.bl _ :: _), h | .tup (.int _ :: _), h | .tup (.tup _ :: _), h | .tup (.lst _ :: _), h | .tup (.ref _ :: _), h => by simp [shF] at h
  | .tup (.str _ :: _ :: _ :: _ :: _), h => by simp [shF] at h
termination_by d => sizeOf d
/-! the program's recognizers, their counts -/
mutual
/-- is_term: the answer, the count behind it -/
def termF : D → Int → Int → Bool × Int
  | .tup [.str w, a], c, d => if 20 < d then (false, c) else if 120 < c + 1 then (false, c + 1) else if w = "var" then (isVar a, c + 1) else if w = "int" ∨ w = "atom" then (isLeaf w [a], c + 1) else (false, c + 1)
  | .tup [.str w, a, .tup ps], c, d => if 20 < d then (false, c) else if 120 < c + 1 then (false, c + 1) else if w = "tuple" ∧ isAtom a = true ∧ 1 ≤ ps.length ∧ ps.length ≤ 6 then termFs ps (c + 1) (d + 1) else (false, c + 1)
  | .tup [.str _, _, _], c, d => if 20 < d then (false, c) else (false, c + 1)
  | _, c, _ => (false, c)
def termFs : List D → Int → Int → Bool × Int
  | [], c, _ => (true, c)
  | x :: xs, c, d => ((termF x c d).1 && (termFs xs (termF x c d).2 d).1, (termFs xs (termF x c d).2 d).2)
end
/-- is_part: the answer, the count behind it -/
def partF : D → Int → Int → Bool × Int
  | .tup [.str w], c, d => if 20 < d then (false, c) else if 120 < c + 1 then (false, c + 1) else (decide (w = "true" ∨ w = "false"), c + 1)
  | .tup [.str w, a], c, d => if 20 < d then (false, c) else if 120 < c + 1 then (false, c + 1) else if w = "not" then partF a (c + 1) (d + 1) else (false, c + 1)
  | .tup [.str w, a, b], c, d => if 20 < d then (false, c) else if 120 < c + 1 then (false, c + 1) else if w = "same" then termFs [a, b] (c + 1) (d + 1)
    else if w = "and" ∨ w = "or" then ((partF a (c + 1) (d + 1)).1 && (partF b (partF a (c + 1) (d + 1)).2 (d + 1)).1, (partF b (partF a (c + 1) (d + 1)).2 (d + 1)).2)
    else if w = "some" ∨ w = "all" then (if isVar a = true then partF b (c + 1) (d + 1) else (false, c + 1)) else (false, c + 1)
  | .tup (.str _ :: _), c, d => if 20 < d then (false, c) else (false, c + 1)
  | _, c, _ => (false, c)
theorem termF_z1 (x : D) (c d : Int) : termF (.tup [x]) c d = (false, c) := by cases x <;> rfl
theorem termF_z4 (x y z u : D) (r : List D) (c d : Int) : termF (.tup (x :: y :: z :: u :: r)) c d = (false, c) := by cases x <;> cases z <;> rfl
mutual
theorem termF_sh : ∀ (v : D) (c d : Int), (termF v c d).1 = true → shT v = true
  | .tup [.str w, a], c, d, h => by
    simp only [termF] at h
    split at h
    · cases h
    · split at h
      · cases h
      · split at h
        · simp_all [shT]
        · split at h
          · rename_i hw
            rcases hw with rfl | rfl
            · cases a with
              | int i =>
                simp [isLeaf] at h
                simp [shT, isBig]
                omega
              | _ => simp [isLeaf] at h
            · simpa [isLeaf, shT] using h
          · cases h
  | .tup [.str w, a, .tup ps], c, d, h => by
    simp only [termF] at h
    split at h
    · cases h
    · split at h
      · cases h
      · split at h
        · rename_i hw
          simp [shT, hw, termFs_sh ps _ _ h]
        · cases h
  | .tup [.str _, _, .non], _, _, h | .tup [.str _, _, .bl _], _, _, h | .tup [.str _, _, .int _], _, _, h | .tup [.str _, _, .str _], _, _, h | .tup [.str _, _, .lst _], _, _, h | .tup [.str _, _, .ref _], _, _, h => by
    simp only [termF] at h
    split at h <;> cases h
  | .non, _, _, h | .bl _, _, _, h | .int _, _, _, h | .str _, _, _, h | .lst _, _, _, h | .ref _, _, _, h | .tup [], _, _, h => by simp [termF] at h
  | .tup [x], _, _, h => by rw [termF_z1] at h; cases h
  | .tup (.non :: _ :: _), _, _, h | .tup (.bl _ :: _ :: _), _, _, h | .tup (.int _ :: _ :: _), _, _, h | .tup (.tup _ :: _ :: _), _, _, h | .tup (.lst _ :: _ :: _), _, _, h | .tup (.ref _ :: _ :: _), _, _, h => by simp [termF] at h
  | .tup (.str _ :: _ :: _ :: _ :: _), _, _, h => by rw [termF_z4] at h; cases h
termination_by v => sizeOf v
theorem termFs_sh : ∀ (vs : List D) (c d : Int), (termFs vs c d).1 = true → shTs vs = true
  | [], _, _, _ => rfl
  | x :: xs, c, d, h => by
    simp only [termFs, Bool.and_eq_true] at h
    simp [shTs, termF_sh x _ _ h.1, termFs_sh xs _ _ h.2]
termination_by vs => sizeOf vs
end
theorem partF_sh : ∀ (v : D) (c d : Int), (partF v c d).1 = true → shF v = true
  | .tup [.str w], c, d, h => by
    simp only [partF] at h
    split at h
    · cases h
    · split at h
      · cases h
      · simpa [shF] using h
  | .tup [.str w, a], c, d, h => by
    simp only [partF] at h
    split at h
    · cases h
    · split at h
      · cases h
      · split at h
        · rename_i hw
          simp [shF, hw, partF_sh a _ _ h]
        · cases h
  | .tup [.str w, a, b], c, d, h => by
    simp only [partF] at h
    split at h
    · cases h
    · split at h
      · cases h
      · split at h
        · have := termFs_sh _ _ _ h
          simp only [shTs, Bool.and_true] at this
          simp_all [shF]
        · split at h
          · simp only [Bool.and_eq_true] at h
            simp_all [shF, partF_sh a _ _ h.1, partF_sh b _ _ h.2]
          · split at h
            · split at h
              · have := partF_sh b _ _ h
                simp_all [shF]
              · cases h
            · cases h
  | .non, _, _, h | .bl _, _, _, h | .int _, _, _, h | .str _, _, _, h | .lst _, _, _, h | .ref _, _, _, h | .tup [], _, _, h => by simp [partF] at h
  | .tup (.non :: _), _, _, h | .tup (.bl _ :: _), _, _, h | .tup (.int _ :: _), _, _, h | .tup (.tup _ :: _), _, _, h | .tup (.lst _ :: _), _, _, h | .tup (.ref _ :: _), _, _, h => by simp [partF] at h
  | .tup (.str _ :: _ :: _ :: _ :: _), _, _, h => by
    simp only [partF] at h
    split at h <;> cases h
termination_by v => sizeOf v
mutual
theorem Tm.size_pos : ∀ t : Tm, 1 ≤ t.size
  | .var _ | .int _ | .atom _ => by simp [Tm.size]
  | .tup _ _ => by simp [Tm.size]
theorem Tm.deep_pos : ∀ t : Tm, 1 ≤ t.deep
  | .var _ | .int _ | .atom _ => by simp [Tm.deep]
  | .tup _ _ => by simp [Tm.deep]
end
mutual
theorem termF_tm : ∀ (t : Tm) (c d : Int), t.ok = true → d ≤ 21 → c ≤ 120 → (termF t.d c d).1 = decide (d + t.deep ≤ 21 ∧ c + t.size ≤ 120) ∧ ((termF t.d c d).1 = true → (termF t.d c d).2 = c + t.size)
  | .var n, c, d, h, hd, hc => by
    simp only [Tm.ok, decide_eq_true_eq] at h
    simp only [Tm.d, termF, Tm.deep, Tm.size]
    split
    · exact ⟨(decide_eq_false (by omega)).symm, fun h => by cases h⟩
    · split
      · exact ⟨(decide_eq_false (by omega)).symm, fun h => by cases h⟩
      · have e : isVar (.int n) = true := by simp [isVar, h]
        simp only [e, if_true, decide_true]
        exact ⟨(decide_eq_true ⟨by omega, by omega⟩).symm, fun _ => by omega⟩
  | .int n, c, d, h, hd, hc => by
    simp only [Tm.ok, decide_eq_true_eq] at h
    simp only [Tm.d, termF, Tm.deep, Tm.size]
    split
    · exact ⟨(decide_eq_false (by omega)).symm, fun h => by cases h⟩
    · split
      · exact ⟨(decide_eq_false (by omega)).symm, fun h => by cases h⟩
      · have e : isLeaf "int" [.int n] = true := by simp [isLeaf]; omega
        simp [e]
        exact decide_eq_true ⟨by omega, by omega⟩
  | .atom s, c, d, h, hd, hc => by
    simp only [Tm.ok] at h
    simp only [Tm.d, termF, Tm.deep, Tm.size]
    split
    · exact ⟨(decide_eq_false (by omega)).symm, fun h => by cases h⟩
    · split
      · exact ⟨(decide_eq_false (by omega)).symm, fun h => by cases h⟩
      · have e : isLeaf "atom" [.str s] = true := by simp [isLeaf, h]
        simp [e]
        exact decide_eq_true ⟨by omega, by omega⟩
  | .tup s ps, c, d, h, hd, hc => by
    simp only [Tm.ok, Bool.and_eq_true, decide_eq_true_eq] at h
    simp only [Tm.d, termF, Tm.deep, Tm.size]
    split
    · exact ⟨(decide_eq_false (by omega)).symm, fun h => by cases h⟩
    · split
      · exact ⟨(decide_eq_false (by omega)).symm, fun h => by cases h⟩
      · rw [if_pos (by rw [ds_len]; exact ⟨trivial, h.1.1, h.1.2.1, h.1.2.2⟩)]
        have := termFs_tm ps (c + 1) (d + 1) h.2 (by omega) (by omega)
        constructor
        · rw [this.1]
          congr 1
          apply propext
          omega
        · intro h
          rw [this.2 h]
          omega
theorem termFs_tm : ∀ (ts : List Tm) (c d : Int), Tm.oks ts = true → d ≤ 21 → c ≤ 120 → (termFs (Tm.ds ts) c d).1 = decide (d + Tm.deeps ts ≤ 21 ∧ c + Tm.sizes ts ≤ 120) ∧ ((termFs (Tm.ds ts) c d).1 = true → (termFs (Tm.ds ts) c d).2 = c + Tm.sizes ts)
  | [], c, d, h, hd, hc => by
    simp [Tm.ds, termFs, Tm.deeps, Tm.sizes]
    omega
  | t :: ts, c, d, h, hd, hc => by
    simp only [Tm.oks, Bool.and_eq_true] at h
    have h1 := termF_tm t c d h.1 hd hc
    simp only [Tm.ds, termFs, Tm.deeps, Tm.sizes]
    cases e : (termF t.d c d).1 with
    | false =>
      have := h1.1
      rw [e] at this
      have := of_decide_eq_false this.symm
      simp only [Bool.false_and]
      exact ⟨(decide_eq_false (by omega)).symm, fun h => by cases h⟩
    | true =>
      have h3 := h1.1
      rw [e] at h3
      have h3 := of_decide_eq_true h3.symm
      have h2 := termFs_tm ts (termF t.d c d).2 d h.2 hd (by rw [h1.2 e]; omega)
      rw [h1.2 e] at h2 ⊢
      constructor
      · rw [h2.1]
        simp only [Bool.true_and]
        congr 1
        apply propext
        omega
      · intro h
        rw [h2.2 (by simpa using h)]
        omega
end
theorem Fm.size_pos (f : Fm) : 1 ≤ f.size := by cases f <;> simp [Fm.size]
theorem Fm.deep_pos (f : Fm) : 1 ≤ f.deep := by cases f <;> simp [Fm.deep]
theorem partF_fm : ∀ (t : Fm) (c d : Int), t.ok = true → d ≤ 21 → c ≤ 120 → (partF t.d c d).1 = decide (d + t.deep ≤ 21 ∧ c + t.size ≤ 120) ∧ ((partF t.d c d).1 = true → (partF t.d c d).2 = c + t.size)
  | .tt, c, d, h, hd, hc | .ff, c, d, h, hd, hc => by
    simp only [Fm.d, partF, Fm.deep, Fm.size]
    split
    · exact ⟨(decide_eq_false (by omega)).symm, fun h => by cases h⟩
    · split
      · exact ⟨(decide_eq_false (by omega)).symm, fun h => by cases h⟩
      · simp
        exact decide_eq_true ⟨by omega, by omega⟩
  | .same a b, c, d, h, hd, hc => by
    simp only [Fm.ok, Bool.and_eq_true] at h
    simp only [Fm.d, partF, Fm.deep, Fm.size]
    split
    · exact ⟨(decide_eq_false (by omega)).symm, fun h => by cases h⟩
    · split
      · exact ⟨(decide_eq_false (by omega)).symm, fun h => by cases h⟩
      · simp only [if_true]
        have := termFs_tm [a, b] (c + 1) (d + 1) (by simp [Tm.oks, h.1, h.2]) (by omega) (by omega)
        simp only [Tm.ds, Tm.deeps, Tm.sizes] at this
        constructor
        · rw [this.1]
          congr 1
          apply propext
          omega
        · intro h
          rw [this.2 h]
          omega
  | .not f, c, d, h, hd, hc => by
    simp only [Fm.ok] at h
    simp only [Fm.d, partF, Fm.deep, Fm.size]
    split
    · exact ⟨(decide_eq_false (by omega)).symm, fun h => by cases h⟩
    · split
      · exact ⟨(decide_eq_false (by omega)).symm, fun h => by cases h⟩
      · simp only [if_true]
        have := partF_fm f (c + 1) (d + 1) h (by omega) (by omega)
        constructor
        · rw [this.1]
          congr 1
          apply propext
          omega
        · intro h
          rw [this.2 h]
          omega
  | .some n f, c, d, h, hd, hc | .all n f, c, d, h, hd, hc => by
    simp only [Fm.ok, Bool.and_eq_true, decide_eq_true_eq] at h
    simp only [Fm.d, partF, Fm.deep, Fm.size]
    split
    · exact ⟨(decide_eq_false (by omega)).symm, fun h => by cases h⟩
    · split
      · exact ⟨(decide_eq_false (by omega)).symm, fun h => by cases h⟩
      · have := partF_fm f (c + 1) (d + 1) h.2 (by omega) (by omega)
        simp [isVar, h.1]
        constructor
        · rw [this.1]
          congr 1
          apply propext
          omega
        · intro h
          rw [this.2 h]
          omega
  | .and f g, c, d, h, hd, hc | .or f g, c, d, h, hd, hc => by
    simp only [Fm.ok, Bool.and_eq_true] at h
    simp only [Fm.d, partF, Fm.deep, Fm.size]
    split
    · exact ⟨(decide_eq_false (by omega)).symm, fun h => by cases h⟩
    · split
      · exact ⟨(decide_eq_false (by omega)).symm, fun h => by cases h⟩
      · have h1 := partF_fm f (c + 1) (d + 1) h.1 (by omega) (by omega)
        rw [if_neg (by simp), if_pos (by simp)]
        cases e : (partF f.d (c + 1) (d + 1)).1 with
        | false =>
          have := h1.1
          rw [e] at this
          have := of_decide_eq_false this.symm
          simp only [Bool.false_and]
          exact ⟨(decide_eq_false (by omega)).symm, fun h => by cases h⟩
        | true =>
          have h3 := h1.1
          rw [e] at h3
          have h3 := of_decide_eq_true h3.symm
          have h2 := partF_fm g (partF f.d (c + 1) (d + 1)).2 (d + 1) h.2 (by omega) (by rw [h1.2 e]; omega)
          rw [h1.2 e] at h2 ⊢
          constructor
          · rw [h2.1]
            simp only [Bool.true_and]
            congr 1
            apply propext
            omega
          · intro h
            rw [h2.2 (by simpa using h)]
            omega
theorem termFs_run (d : Int) : ∀ (xs : List D) (c : Int), boolRun (fun x c => termF x c d) xs c = termFs xs c d
  | [], c => rfl
  | x :: xs, c => by simp only [boolRun, termFs, termFs_run d xs]

/-- what the maths needs of the program's tables -/
structure TOk (T : Prog) : Prop where
  fns : T.fns = fns
  init : T.init 0 = some 4
  more : T.meth 0 "more" = some 5
  count : T.attr 0 "count" = true
def termP (z : D) (c d : Int) : Bool × Int := match z with
  | .tup ps => if 1 ≤ ps.length ∧ ps.length ≤ 6 then termFs ps c d else (false, c)
  | _ => (false, c)
theorem termF_3 (w : Str) (a z : D) (c d : Int) : termF (.tup [.str w, a, z]) c d = if 20 < d then (false, c) else if 120 < c + 1 then (false, c + 1) else if w = "tuple" ∧ isAtom a = true then termP z (c + 1) (d + 1) else (false, c + 1) := by
  cases z with
  | tup ps =>
    simp only [termF, termP]
    split
    · rfl
    · split
      · rfl
      · by_cases h1 : w = "tuple" ∧ isAtom a = true
        · simp [h1]
        · rw [if_neg h1, if_neg (fun h => h1 ⟨h.1, h.2.1⟩)]
  | _ => simp [termF, termP]
section
variable {T : Prog} (O : TOk T)
include O
theorem c_is_whole {k : Nat} {v : D} (hr : nr v = true) : callI T (k + 1) 0 [v] = M.pure (.bl (isWhole v)) := by
  refine tell (n := 1) (np := 1) (b := b_is_whole) (dr := false) (by rw [O.fns]; rfl) rfl fun h => ?_
  cases v <;> first | cases hr; done | simp [b_is_whole, startD, isWhole]
theorem c_is_atom {k : Nat} {v : D} (hr : nr v = true) (hs : ∀ z, v = .str z → z.length ≤ lim) : callI T (k + 1) 1 [v] = M.pure (.bl (isAtom v)) := by
  refine tell (n := 2) (np := 1) (b := b_is_atom) (dr := false) (by rw [O.fns]; rfl) rfl fun h => ?_
  simp [b_is_atom, startD, isi_str1 hr]
  cases v with
  | str z =>
    have hz := hs z rfl
    simp [isStrD, len_str hz]
    by_cases h1 : 1 ≤ z.length
    · by_cases h2 : z.length ≤ 12
      · obtain ⟨c, r, hc⟩ : ∃ c r, z.cps.toList = c :: r := by
          cases e : z.cps.toList with
          | nil =>
            have : z.length = 0 := by
              show z.cps.size = 0
              rw [← Array.length_toList, e]; rfl
            omega
          | cons c r => exact ⟨c, r, rfl⟩
        have e1 : (1 : Int) ≤ (z.length : Int) := by omega
        have e3 : (z.length : Int) ≤ 12 := by omega
        have f1 : ¬ (z.length : Int) < 1 := by omega
        have f3 : ¬ 12 < (z.length : Int) := by omega
        simp [e1, e3, idx_str0 hz hc]
        have hi : isAtom (.str z) = (isSmall c && z.cps.toList.all fun c => isSmall c || isDigit c) := by
          simp [isAtom, h1, h2, hc]
        rw [hi]
        by_cases h3 : isSmall c = true
        · have h3' := h3
          simp [isSmall, smalls] at h3'
          simp [h3, h3', walk_str hz, f1, f3]
          refine wp_comp2 (fun c => D.bl (isSmall c || isDigit c)) ?_ (by rw [Array.length_toList]; exact hz) ?_
          · intro d _
            by_cases h4 : d ∈ smalls.cps.toList
            · simp [isSmall, smalls, wipeD] at h4 ⊢
              simp [h4]
            · simp [isSmall, isDigit, smalls, digits, wipeD] at h4 ⊢
              simp [h4]
          · rw [all_map (p := fun c => isSmall c || isDigit c)]
            have : (z.cps.toList.all fun c => isSmall c || isDigit c) = (z.cps.all fun c => isSmall c || isDigit c) := by simp
            rw [← this, hc]
            simp
        · have h3' := h3
          simp [isSmall, smalls] at h3'
          simp [h3, h3', f1, f3]
      · have e3 : ¬ (z.length : Int) ≤ 12 := by omega
        have h6 : isAtom (.str z) = false := by simp [isAtom, h2]
        have e1 : (1 : Int) ≤ (z.length : Int) := by omega
        simp [e1, e3, h6]
    · have e1 : ¬ (1 : Int) ≤ (z.length : Int) := by omega
      have h6 : isAtom (.str z) = false := by simp [isAtom, h1]
      simp [e1, h6]
  | ref n => cases hr
  | _ => simp [isStrD, isAtom]
theorem c_is_variable {k : Nat} {v : D} (hr : nr v = true) : callI T (k + 2) 6 [v] = M.pure (.bl (isVar v)) := by
  refine tell (n := 1) (np := 1) (b := b_is_variable) (dr := false) (by rw [O.fns]; rfl) rfl fun h => ?_
  simp [b_is_variable, startD, c_is_whole O hr]
  cases v <;> simp [isWhole, isVar]
  rename_i i
  by_cases h1 : 0 ≤ i <;> simp [h1]
  omega
/-- is_node of a leaf -/
theorem c_is_node {k : Nat} {w : Str} {x : D} (hw : w = "int" ∨ w = "atom") (hr : nr x = true) (hs : ∀ z, x = .str z → z.length ≤ lim) : callI T (k + 2) 3 [.tup [.str w, x], .int 0] = M.pure (.bl (isLeaf w [x])) := by
  refine tell (n := 4) (np := 2) (b := b_is_node) (dr := false) (by rw [O.fns]; rfl) rfl fun h => ?_
  rcases hw with rfl | rfl
  · simp [b_is_node, startD, c_is_whole O hr]
    cases x <;> simp [isWhole, isLeaf]
  · simp [b_is_node, startD, c_is_atom O hr hs, isLeaf]
theorem c_is_node3 {k : Nat} {w : Str} {x y : D} (hw : w = "int" ∨ w = "atom") : callI T (k + 2) 3 [.tup [.str w, x, y], .int 0] = M.pure (.bl false) := by
  refine tell (n := 4) (np := 2) (b := b_is_node) (dr := false) (by rw [O.fns]; rfl) rfl fun h => ?_
  rcases hw with rfl | rfl <;> simp [b_is_node, startD]
/-- a Sizes object -/
abbrev szs (c : Int) : MO := .ins 0 [("count", .int c)]
theorem c_more {k : Nat} {s : MO} {c : Int} {E} {Q : D → Hs → Prop} : Wp (callI T (k + 1) 5 [.ref 1]) [s, szs c] Q E ↔ Q (.bl (decide (c + 1 ≤ 120))) [s, szs (c + 1)] := by
  have : callI T (k + 1) 5 [.ref 1] [s, szs c] = .ok (.bl (decide (c + 1 ≤ 120))) [s, szs (c + 1)] := by
    simp only [callI, O.fns]
    have hc := O.count
    simp [fns, b_Sizes__more, startD, hc, lift, calm, M.bind, clsM, attD, fldD, retO, augD, putFD, toD, PX.ret]
    rfl
  simp only [Wp, WpI, this]
theorem c_recv {k : Nat} {s : MO} {c : Int} {E} {Q : Nat → Hs → Prop} : Wp (recvM (par T (k + 1)) "more" (.ref 1)) [s, szs c] Q E ↔ Q 5 [s, szs c] := by
  have h1 : recvM (par T (k + 1)) "more" (.ref 1) [s, szs c] = .ok 5 [s, szs c] := by
    have hm : (par T (k + 1)).meth 0 "more" = some 5 := O.more
    have hb : (Str.ofString "more" == Str.ofString "count") = false := by decide
    simp [recvM, O.more, List.lookup, hb]
  simp only [Wp, WpI, h1]
theorem c_is_term {s : MO} : ∀ (n k : Nat) (v : D) (c d : Int), pl v = true → depD v ≤ n → n + 3 ≤ k → Wp (callI T k 7 [v, .ref 1, .int d]) [s, szs c] (fun x h' => x = .bl (termF v c d).1 ∧ h' = [s, szs (termF v c d).2]) := by
  intro n
  induction n with
  | zero =>
    intro k v c d hp hd hk
    obtain ⟨k, rfl⟩ : ∃ j, k = j + 1 := ⟨k - 1, by omega⟩
    refine wp_callP (n := 4) (np := 3) (b := b_is_term) (dr := false) (by rw [O.fns]; rfl) rfl ?_
    cases v with
    | tup xs => simp [depD] at hd
    | ref _ => simp [pl] at hp
    | _ => simp [b_is_term, startD, termF]
  | succ n ih =>
    intro k v c d hp hd hk
    obtain ⟨k, rfl⟩ : ∃ j, k = j + 4 := ⟨k - 4, by omega⟩
    refine wp_callP (n := 4) (np := 3) (b := b_is_term) (dr := false) (by rw [O.fns]; rfl) rfl ?_
    cases v with
    | ref _ => simp [pl] at hp
    | tup xs =>
      match xs with
      | [] => simp [b_is_term, startD, termF]
      | [x] => simp [b_is_term, startD, termF_z1]
      | [x, y] =>
        have nx : nr x = true := by cases x <;> simp [pl, pls, nr] at hp ⊢
        have ny : nr y = true := by cases y <;> simp [pl, pls, nr] at hp ⊢
        cases x with
        | str w =>
          by_cases h1 : 20 < d
          · simp [b_is_term, startD, termF, h1]
          · have h1' := Int.not_lt.mp h1
            by_cases h2 : 120 < c + 1
            · have h2' : ¬ c + 1 ≤ 120 := by omega
              simp [b_is_term, startD, c_more O, c_recv O, termF, h1, h1', h2, h2']
            · have h2' := Int.not_lt.mp h2
              by_cases h3 : w = "var"
              · subst h3
                simp [b_is_term, startD, c_more O, c_recv O, termF, h1, h1', h2, h2', c_is_variable O ny]
              · by_cases h4 : w = "int" ∨ w = "atom"
                · have h4' : ("int" : Str) = w ∨ ("atom" : Str) = w := h4.imp Eq.symm Eq.symm
                  have hz : ∀ z, y = .str z → z.length ≤ lim := by
                    intro z e
                    subst e
                    simp [pl, pls] at hp
                    exact hp.2
                  simp [b_is_term, startD, c_more O, c_recv O, termF, h1, h1', h2, h2', h3, h4, h4', c_is_node O h4 ny hz]
                · have h4' : ¬ (("int" : Str) = w ∨ ("atom" : Str) = w) := fun e => h4 (e.imp Eq.symm Eq.symm)
                  simp [b_is_term, startD, c_more O, c_recv O, termF, h1, h1', h2, h2', h3, h4, h4']
                  exact fun hh hw => absurd hw hh
        | ref _ => cases nx
        | _ => simp [b_is_term, startD, termF]
      | [x, y, z] =>
        have nx : nr x = true := by cases x <;> simp [pl, pls, nr] at hp ⊢
        have ny : nr y = true := by cases y <;> simp [pl, pls, nr] at hp ⊢
        have nz : nr z = true := by cases z <;> simp [pl, pls, nr] at hp ⊢
        cases x with
        | str w =>
          rw [termF_3]
          by_cases h1 : 20 < d
          · simp [b_is_term, startD, h1]
          · have h1' := Int.not_lt.mp h1
            by_cases h2 : 120 < c + 1
            · have h2' : ¬ c + 1 ≤ 120 := by omega
              simp [b_is_term, startD, c_more O, c_recv O, h1, h1', h2, h2']
            · have h2' := Int.not_lt.mp h2
              by_cases h3 : w = "var"
              · subst h3
                simp [b_is_term, startD, c_more O, c_recv O, h1, h1', h2, h2']
              · by_cases h4 : w = "int" ∨ w = "atom"
                · have h4' : ("int" : Str) = w ∨ ("atom" : Str) = w := h4.imp Eq.symm Eq.symm
                  have h5 : ¬ w = "tuple" := by rcases h4 with rfl | rfl <;> simp
                  simp [b_is_term, startD, c_more O, c_recv O, h1, h1', h2, h2', h3, h4, h4', h5, c_is_node3 O h4]
                · have h4' : ¬ (("int" : Str) = w ∨ ("atom" : Str) = w) := fun e => h4 (e.imp Eq.symm Eq.symm)
                  by_cases h5 : w = "tuple"
                  · subst h5
                    have hz : ∀ z, y = .str z → z.length ≤ lim := by
                      intro z e
                      subst e
                      simp [pl, pls] at hp
                      exact hp.2.1
                    by_cases h6 : isAtom y = true
                    · simp [b_is_term, startD, c_more O, c_recv O, h1, h1', h2, h2', c_is_atom O ny hz, h6, isi_tuple1 nz]
                      cases z with
                      | tup ps =>
                        have hps : pls ps = true := by
                          simp [pl, pls] at hp
                          exact hp.2.2.2
                        have hdp : depDs ps ≤ n := by
                          simp [depD, depDs] at hd
                          omega
                        by_cases h7 : 1 ≤ ps.length
                        · by_cases h8 : ps.length ≤ 6
                          · have e7 : (1 : Int) ≤ ps.length := by omega
                            have e8 : (ps.length : Int) ≤ 6 := by omega
                            have f7 : ¬ (ps.length : Int) < 1 := by omega
                            have f8 : ¬ 6 < (ps.length : Int) := by omega
                            simp [isTup, termP, e7, e8, f7, f8, h7, h8]
                            refine wp_comp_st (fun c => [s, szs c]) (fun x c => (.bl (termF x c (d + 1)).1, (termF x c (d + 1)).2)) (c + 1) rfl ?_ (by simp [lim]; omega) ?_
                            · intro x hx c
                              simp [wipeD]
                              refine (ih (k + 3) x c (d + 1) (pls_mem hps hx) (depDs_mem hdp hx) (by omega)).mono ?_
                              rintro _ _ ⟨rfl, rfl⟩
                              simp
                            · obtain ⟨e1, e2⟩ := all_stRun (fun x c => termF x c (d + 1)) ps (c + 1)
                              rw [e1, e2, termFs_run]
                              simp
                          · have e7 : (1 : Int) ≤ ps.length := by omega
                            have e8 : ¬ (ps.length : Int) ≤ 6 := by omega
                            have f7 : ¬ (ps.length : Int) < 1 := by omega
                            have f8 : 6 < (ps.length : Int) := by omega
                            simp [isTup, termP, e7, e8, f7, f8, h7, h8]
                        · have e7 : ¬ (1 : Int) ≤ ps.length := by omega
                          have f7 : (ps.length : Int) < 1 := by omega
                          simp [isTup, termP, e7, f7, h7]
                      | ref _ => cases nz
                      | _ => simp [isTup, termP]
                    · simp [b_is_term, startD, c_more O, c_recv O, h1, h1', h2, h2', c_is_atom O ny hz, h6]
                  · simp [b_is_term, startD, c_more O, c_recv O, h1, h1', h2, h2', h3, h4, h4', h5]
        | ref _ => cases nx
        | _ => simp [b_is_term, startD, termF]
      | x :: y :: z :: u :: r =>
        have e2 : ¬ ((r.length : Int) + 1 + 1 + 1 + 1 = 2) := by omega
        have e3 : ¬ ((r.length : Int) + 1 + 1 + 1 + 1 = 3) := by omega
        have e2' : ¬ (2 = (r.length : Int) + 1 + 1 + 1 + 1) := by omega
        have e3' : ¬ (3 = (r.length : Int) + 1 + 1 + 1 + 1) := by omega
        simp [b_is_term, startD, termF_z4, e2, e3, e2', e3']
    | _ => simp [b_is_term, startD, termF]
end

section
variable {T : Prog} (O : TOk T)
include O
theorem c_is_part {s : MO} : ∀ (n k : Nat) (v : D) (c d : Int), pl v = true → depD v ≤ n → n + 4 ≤ k → Wp (callI T k 8 [v, .ref 1, .int d]) [s, szs c] (fun x h' => x = .bl (partF v c d).1 ∧ h' = [s, szs (partF v c d).2]) := by
  intro n
  induction n with
  | zero =>
    intro k v c d hp hd hk
    obtain ⟨k, rfl⟩ : ∃ j, k = j + 1 := ⟨k - 1, by omega⟩
    refine wp_callP (n := 6) (np := 3) (b := b_is_part) (dr := false) (by rw [O.fns]; rfl) rfl ?_
    cases v with
    | tup xs => simp [depD] at hd
    | ref _ => simp [pl] at hp
    | _ => simp [b_is_part, startD, partF]
  | succ n ih =>
    intro k v c d hp hd hk
    obtain ⟨k, rfl⟩ : ∃ j, k = j + 5 := ⟨k - 5, by omega⟩
    refine wp_callP (n := 6) (np := 3) (b := b_is_part) (dr := false) (by rw [O.fns]; rfl) rfl ?_
    cases v with
    | ref _ => simp [pl] at hp
    | tup xs =>
      cases xs with
      | nil => simp [b_is_part, startD, partF]
      | cons x xs =>
        have nx : nr x = true := by cases x <;> simp [pl, pls, nr] at hp ⊢
        cases x with
        | ref _ => cases nx
        | str w =>
          by_cases h1 : 20 < d
          · have : partF (.tup (.str w :: xs)) c d = (false, c) := by
              match xs with
              | [] | [_] | [_, _] | _ :: _ :: _ :: _ => simp [partF, h1]
            simp [b_is_part, startD, this, h1]
          · have h1' := Int.not_lt.mp h1
            by_cases h2 : 120 < c + 1
            · have h2' : ¬ c + 1 ≤ 120 := by omega
              have : partF (.tup (.str w :: xs)) c d = (false, c + 1) := by
                match xs with
                | [] | [_] | [_, _] | _ :: _ :: _ :: _ => simp [partF, h1, h2]
              simp [b_is_part, startD, c_more O, c_recv O, this, h1, h1', h2, h2']
            · have h2' := Int.not_lt.mp h2
              by_cases w1 : w = "true" ∨ w = "false"
              · have w1' : ("true" : Str) = w ∨ ("false" : Str) = w := w1.imp Eq.symm Eq.symm
                have : partF (.tup (.str w :: xs)) c d = (xs.isEmpty, c + 1) := by
                  rcases w1 with rfl | rfl <;> match xs with
                  | [] | [_] | [_, _] | _ :: _ :: _ :: _ => simp [partF, h1, h2]
                simp [b_is_part, startD, c_more O, c_recv O, h1, h1', h2, h2', w1', this]
              · have w1' : ¬ (("true" : Str) = w ∨ ("false" : Str) = w) := fun e => w1 (e.imp Eq.symm Eq.symm)
                by_cases w2 : w = "same"
                · subst w2
                  by_cases l2 : xs.length = 2
                  · have e2 : (xs.length : Int) = 2 := by omega
                    obtain ⟨a, b, rfl⟩ : ∃ a b, xs = [a, b] := by
                      match xs, l2 with
                      | [a, b], _ => exact ⟨a, b, rfl⟩
                    simp [b_is_part, startD, c_more O, c_recv O, h1, h1', h2, h2', partF]
                    have hps : pls [a, b] = true := by
                      simp [pl, pls] at hp ⊢
                      exact hp.2
                    have hdp : depDs [a, b] ≤ n := by
                      simp [depD, depDs] at hd ⊢
                      omega
                    refine wp_comp_st (fun c => [s, szs c]) (fun x c => (.bl (termF x c (d + 1)).1, (termF x c (d + 1)).2)) (c + 1) rfl ?_ (by simp) ?_
                    · intro x hx c
                      simp
                      refine (c_is_term O n (k + 4) x c (d + 1) (pls_mem hps hx) (depDs_mem hdp hx) (by omega)).mono ?_
                      rintro _ _ ⟨rfl, rfl⟩
                      simp
                    · obtain ⟨e1, e2⟩ := all_stRun (fun x c => termF x c (d + 1)) [a, b] (c + 1)
                      rw [e1, e2, termFs_run]
                      simp
                  · have e2 : ¬ (xs.length : Int) = 2 := by omega
                    have : partF (.tup (.str "same" :: xs)) c d = (false, c + 1) := by
                      match xs, l2 with
                      | [], _ | [_], _ | _ :: _ :: _ :: _, _ => simp [partF, h1, h2]
                    simp [b_is_part, startD, c_more O, c_recv O, h1, h1', h2, h2', e2, this]
                · by_cases w3 : w = "not"
                  · subst w3
                    by_cases l2 : xs.length = 1
                    · obtain ⟨a, rfl⟩ : ∃ a, xs = [a] := by
                        match xs, l2 with
                        | [a], _ => exact ⟨a, rfl⟩
                      simp [b_is_part, startD, c_more O, c_recv O, h1, h1', h2, h2', partF]
                      refine (ih (k + 4) a (c + 1) (d + 1) ?_ ?_ (by omega)).mono ?_
                      · simp [pl, pls] at hp
                        exact hp.2
                      · simp [depD, depDs] at hd
                        omega
                      · rintro _ _ ⟨rfl, rfl⟩
                        simp
                    · have e2 : ¬ (xs.length : Int) = 1 := by omega
                      have : partF (.tup (.str "not" :: xs)) c d = (false, c + 1) := by
                        match xs, l2 with
                        | [], _ | [_, _], _ | _ :: _ :: _ :: _, _ => simp [partF, h1, h2]
                      simp [b_is_part, startD, c_more O, c_recv O, h1, h1', h2, h2', e2, this]
                  · by_cases w4 : w = "and" ∨ w = "or"
                    · have w4' : ("and" : Str) = w ∨ ("or" : Str) = w := w4.imp Eq.symm Eq.symm
                      by_cases l2 : xs.length = 2
                      · have e2 : (xs.length : Int) = 2 := by omega
                        obtain ⟨a, b, rfl⟩ : ∃ a b, xs = [a, b] := by
                          match xs, l2 with
                          | [a, b], _ => exact ⟨a, b, rfl⟩
                        simp [b_is_part, startD, c_more O, c_recv O, h1, h1', h2, h2', partF, w1', w2, w3, w4, w4']
                        have hps : pls [a, b] = true := by
                          simp [pl, pls] at hp ⊢
                          exact hp.2
                        have hdp : depDs [a, b] ≤ n := by
                          simp [depD, depDs] at hd ⊢
                          omega
                        refine wp_comp_st (fun c => [s, szs c]) (fun x c => (.bl (partF x c (d + 1)).1, (partF x c (d + 1)).2)) (c + 1) rfl ?_ (by simp) ?_
                        · intro x hx c
                          simp
                          refine (ih (k + 4) x c (d + 1) (pls_mem hps hx) (depDs_mem hdp hx) (by omega)).mono ?_
                          rintro _ _ ⟨rfl, rfl⟩
                          simp
                        · obtain ⟨e1, e2⟩ := all_stRun (fun x c => partF x c (d + 1)) [a, b] (c + 1)
                          rw [e1, e2]
                          simp [boolRun]
                      · have e2 : ¬ (xs.length : Int) = 2 := by omega
                        have : partF (.tup (.str w :: xs)) c d = (false, c + 1) := by
                          match xs, l2 with
                          | [], _ | [_], _ | _ :: _ :: _ :: _, _ => simp [partF, h1, h2, w1, w3]
                        simp [b_is_part, startD, c_more O, c_recv O, h1, h1', h2, h2', e2, this, w1', w2, w3, w4']
                    · have w4' : ¬ (("and" : Str) = w ∨ ("or" : Str) = w) := fun e => w4 (e.imp Eq.symm Eq.symm)
                      by_cases w5 : w = "some" ∨ w = "all"
                      · have w5' : ("some" : Str) = w ∨ ("all" : Str) = w := w5.imp Eq.symm Eq.symm
                        by_cases l2 : xs.length = 2
                        · obtain ⟨a, b, rfl⟩ : ∃ a b, xs = [a, b] := by
                            match xs, l2 with
                            | [a, b], _ => exact ⟨a, b, rfl⟩
                          have na : nr a = true := by cases a <;> simp [pl, pls, nr] at hp ⊢
                          by_cases va : isVar a = true
                          · simp [b_is_part, startD, c_more O, c_recv O, h1, h1', h2, h2', partF, w1', w2, w3, w4, w4', w5, w5', c_is_variable O na, va]
                            refine (ih (k + 4) b (c + 1) (d + 1) ?_ ?_ (by omega)).mono ?_
                            · simp [pl, pls] at hp
                              exact hp.2.2
                            · simp [depD, depDs] at hd
                              omega
                            · rintro _ _ ⟨rfl, rfl⟩
                              simp
                          · simp [b_is_part, startD, c_more O, c_recv O, h1, h1', h2, h2', partF, w1', w2, w3, w4, w4', w5, w5', c_is_variable O na, va]
                        · have e2 : ¬ (xs.length : Int) = 2 := by omega
                          have : partF (.tup (.str w :: xs)) c d = (false, c + 1) := by
                            match xs, l2 with
                            | [], _ | [_], _ | _ :: _ :: _ :: _, _ => simp [partF, h1, h2, w1, w3]
                          simp [b_is_part, startD, c_more O, c_recv O, h1, h1', h2, h2', e2, this, w1', w2, w3, w4', w5']
                      · have w5' : ¬ (("some" : Str) = w ∨ ("all" : Str) = w) := fun e => w5 (e.imp Eq.symm Eq.symm)
                        have : partF (.tup (.str w :: xs)) c d = (false, c + 1) := by
                          match xs with
                          | [] | [_] | [_, _] | _ :: _ :: _ :: _ => simp [partF, h1, h2, w1, w2, w3, w4, w5]
                        simp [b_is_part, startD, c_more O, c_recv O, h1, h1', h2, h2', this, w1', w2, w3, w4', w5']
        | _ => simp [b_is_part, startD, partF]
    | _ => simp [b_is_part, startD, partF]
end

def inR (lo hi : Int) : D → Bool
  | .int i => decide (lo ≤ i ∧ i ≤ hi)
  | _ => false
theorem inR_var (v : D) : inR 0 99 v = isVar v := by cases v <;> rfl
theorem inR_big (v : D) : inR (-1000000000) 1000000000 v = isBig v := by cases v <;> rfl
theorem pow9 : binD .pow (.int 10) (.int 9) = PX.ret (.int 1000000000) := by
  funext h
  simp [binD, PX.ret]
theorem smdg : binD .add (.str "abcdefghijklmnopqrstuvwxyz") (.str "0123456789") = PX.ret (.str "abcdefghijklmnopqrstuvwxyz0123456789") := by
  funext h
  simp only [binD]
  rw [if_pos (by decide)]
  rfl
theorem mem_smdg (c : Nat) : decide (c ∈ (Str.ofString "abcdefghijklmnopqrstuvwxyz0123456789").cps.toList) = (isSmall c || isDigit c) := by
  have : (Str.ofString "abcdefghijklmnopqrstuvwxyz0123456789").cps.toList = smalls.cps.toList ++ digits.cps.toList := by decide
  rw [this]
  simp [isSmall, isDigit]
theorem shT_3 (w : Str) (a z : D) : shT (.tup [.str w, a, z]) = (decide (w = "tuple") && isAtom a && (match z with
    | .tup ps => decide (1 ≤ ps.length ∧ ps.length ≤ 6) && shTs ps
    | _ => false)) := by
  cases z <;> simp [shT, Bool.and_assoc]
theorem shTs_all (ps : List D) : shTs ps = ps.all shT := by
  induction ps with
  | nil => rfl
  | cons x xs ih => simp [shTs, ih]
section
variable {T : Prog} (O : TOk T)
include O
theorem c_is_formula {k : Nat} {o : MO} {v : D} (hp : pl v = true) (hk : depD v + 4 ≤ k) {Q : D → Hs → Prop} {E} (q : Q (.bl (partF v 0 1).1) [o]) : Wp (callI T (k + 1) 9 [v]) [o] Q E := by
  refine wp_callP (n := 1) (np := 1) (b := b_is_formula) (dr := true) (by rw [O.fns]; rfl) rfl ?_
  have hn : ∀ {Q : Raw → Hs → Prop} {E}, Q (.val (.ref 1)) [o, szs 0] → Wp (newM (par T k) 0 []) [o] Q E := by
    intro Q E q
    obtain ⟨k, rfl⟩ : ∃ j, k = j + 1 := ⟨k - 1, by omega⟩
    have : newM (par T (k + 1)) 0 [] [o] = .ok (.val (.ref 1)) [o, szs 0] := by
      simp only [newM, par_init, O.init, par_call, callI, O.fns]
      have hc := O.count
      simp [fns, b_Sizes____init, startD, hc, lift, calm, M.bind, fldD, putFD, toD, PX.ret]
      rfl
    simp only [Wp, WpI, this]
    exact q
  simp [b_is_formula, startD]
  refine hn ?_
  simp
  refine Wp.mono (c_is_part O (depD v) k v 0 1 hp (Nat.le_refl _) hk) ?_
  rintro _ _ ⟨rfl, rfl⟩
  exact fin_rt_drop (h := [o]) [_] rfl q
theorem c_is_number {k : Nat} {v : D} {lo hi : Int} (hr : nr v = true) : callI T (k + 1) 25 [v, .int lo, .int hi] = M.pure (.bl (inR lo hi v)) := by
  refine tell (n := 3) (np := 3) (b := b_law_is_number) (dr := false) (by rw [O.fns]; rfl) rfl fun h => ?_
  simp [b_law_is_number, startD, isi_int1 hr, isi_bool1 hr]
  cases v with
  | int i =>
    simp [isIntD, isBlD, inR]
    by_cases h1 : lo ≤ i
    · simp [h1]
      omega
    · simp [h1]
  | ref _ => cases hr
  | _ => simp [isIntD, isBlD, inR]
theorem c_law_is_atom {k : Nat} {v : D} (hr : nr v = true) (hs : ∀ z, v = .str z → z.length ≤ lim) : callI T (k + 1) 26 [v] = M.pure (.bl (isAtom v)) := by
  refine tell (n := 3) (np := 1) (b := b_law_is_atom) (dr := false) (by rw [O.fns]; rfl) rfl fun h => ?_
  simp [b_law_is_atom, startD, isi_str1 hr]
  cases v with
  | str z =>
    have hz := hs z rfl
    simp [isStrD, len_str hz]
    by_cases h1 : 1 ≤ z.length
    · by_cases h2 : z.length ≤ 12
      · obtain ⟨c, r, hc⟩ : ∃ c r, z.cps.toList = c :: r := by
          cases e : z.cps.toList with
          | nil =>
            have : z.length = 0 := by
              show z.cps.size = 0
              rw [← Array.length_toList, e]; rfl
            omega
          | cons c r => exact ⟨c, r, rfl⟩
        have e1 : (1 : Int) ≤ (z.length : Int) := by omega
        have e3 : (z.length : Int) ≤ 12 := by omega
        have f1 : ¬ (z.length : Int) < 1 := by omega
        have f3 : ¬ 12 < (z.length : Int) := by omega
        simp [e1, e3, idx_str0 hz hc]
        have hi : isAtom (.str z) = (isSmall c && z.cps.toList.all fun c => isSmall c || isDigit c) := by
          simp [isAtom, h1, h2, hc]
        rw [hi]
        by_cases h3 : isSmall c = true
        · have h3' := h3
          simp [isSmall, smalls] at h3'
          simp [h3, h3', walk_str hz, f1, f3]
          refine wp_comp2 (fun c => D.bl (isSmall c || isDigit c)) ?_ (by rw [Array.length_toList]; exact hz) ?_
          · intro d _
            simp [smdg]
            have := mem_smdg d
            simp at this
            rw [this]
          · rw [all_map (p := fun c => isSmall c || isDigit c)]
            simp [hc]
            have : (z.cps.toList.all fun c => isSmall c || isDigit c) = (z.cps.all fun c => isSmall c || isDigit c) := by simp
            rw [← this, hc]
            simp
        · have h3' := h3
          simp [isSmall, smalls] at h3'
          simp [h3, h3', f1, f3]
      · have e3 : ¬ (z.length : Int) ≤ 12 := by omega
        have h6 : isAtom (.str z) = false := by simp [isAtom, h2]
        have e1 : (1 : Int) ≤ (z.length : Int) := by omega
        simp [e1, e3, h6]
    · have e1 : ¬ (1 : Int) ≤ (z.length : Int) := by omega
      have h6 : isAtom (.str z) = false := by simp [isAtom, h1]
      simp [e1, h6]
  | ref n => cases hr
  | _ => simp [isStrD, isAtom]
theorem c_law_is_term : ∀ (n k : Nat) (v : D), pl v = true → depD v ≤ n → n + 3 ≤ k → callI T k 27 [v] = M.pure (.bl (shT v)) := by
  intro n
  induction n with
  | zero =>
    intro k v hp hd hk
    obtain ⟨k, rfl⟩ : ∃ j, k = j + 1 := ⟨k - 1, by omega⟩
    refine tell (n := 2) (np := 1) (b := b_law_is_term) (dr := false) (by rw [O.fns]; rfl) rfl fun h => ?_
    cases v with
    | tup xs => simp [depD] at hd
    | ref _ => simp [pl] at hp
    | _ => simp [b_law_is_term, startD, shT]
  | succ n ih =>
    intro k v hp hd hk
    obtain ⟨k, rfl⟩ : ∃ j, k = j + 4 := ⟨k - 4, by omega⟩
    refine tell (n := 2) (np := 1) (b := b_law_is_term) (dr := false) (by rw [O.fns]; rfl) rfl fun h => ?_
    cases v with
    | ref _ => simp [pl] at hp
    | tup xs =>
      match xs with
      | [] => simp [b_law_is_term, startD, shT]
      | [x] => simp [b_law_is_term, startD, shT_z1]
      | x :: y :: r =>
        have nx : nr x = true := by cases x <;> simp [pl, pls, nr] at hp ⊢
        have ny : nr y = true := by cases y <;> simp [pl, pls, nr] at hp ⊢
        have e0 : ¬ ((r.length : Int) + 1 + 1 < 2) := by omega
        cases x with
        | ref _ => cases nx
        | str w =>
          have hz : ∀ z, y = .str z → z.length ≤ lim := by
            intro z e
            subst e
            simp [pl, pls] at hp
            exact hp.2.2.1
          by_cases h1 : w = "var"
          · subst h1
            simp [b_law_is_term, startD, e0, c_is_number O ny, inR_var]
            match r with
            | [] => simp [shT]
            | [z] => simp [shT_3]
            | z :: u :: r =>
              simp [shT_z4]
              omega
          · by_cases h2 : w = "int"
            · subst h2
              simp [b_law_is_term, startD, e0, c_is_number O ny, pow9, inR_big]
              match r with
              | [] => simp [shT]
              | [z] => simp [shT_3]
              | z :: u :: r =>
                simp [shT_z4]
                omega
            · by_cases h3 : w = "atom"
              · subst h3
                simp [b_law_is_term, startD, e0, c_law_is_atom O ny hz]
                match r with
                | [] => simp [shT]
                | [z] => simp [shT_3]
                | z :: u :: r =>
                  simp [shT_z4]
                  omega
              · by_cases h4 : w = "tuple"
                · subst h4
                  match r with
                  | [] => simp [b_law_is_term, startD, shT]
                  | z :: u :: r =>
                    have : ¬ (r.length : Int) + 1 + 1 + 1 + 1 = 3 := by omega
                    simp [b_law_is_term, startD, shT_z4, this]
                  | [z] =>
                    have nz : nr z = true := by cases z <;> simp [pl, pls, nr] at hp ⊢
                    by_cases h5 : isAtom y = true
                    · simp [b_law_is_term, startD, c_law_is_atom O ny hz, h5, isi_tuple1 nz, shT_3]
                      cases z with
                      | ref _ => cases nz
                      | tup ps =>
                        have hps : pls ps = true := by
                          simp [pl, pls] at hp
                          exact hp.2.2.2
                        have hdp : depDs ps ≤ n := by
                          simp [depD, depDs] at hd
                          omega
                        simp [isTup]
                        by_cases h7 : 1 ≤ ps.length
                        · by_cases h8 : ps.length ≤ 6
                          · have e7 : (1 : Int) ≤ ps.length := by omega
                            have e8 : (ps.length : Int) ≤ 6 := by omega
                            have f7 : ¬ (ps.length : Int) < 1 := by omega
                            have f8 : ¬ 6 < (ps.length : Int) := by omega
                            simp [e7, e8, f7, f8, h7, h8]
                            refine wp_comp (fun x => .bl (shT x)) ?_ (by simp [lim]; omega) ?_
                            · intro x hx
                              simp [ih (k + 3) x (pls_mem hps hx) (depDs_mem hdp hx) (by omega)]
                            · rw [all_map (p := shT), shTs_all]
                              simp
                          · have e7 : (1 : Int) ≤ ps.length := by omega
                            have e8 : ¬ (ps.length : Int) ≤ 6 := by omega
                            have f7 : ¬ (ps.length : Int) < 1 := by omega
                            have f8 : 6 < (ps.length : Int) := by omega
                            simp [e7, e8, f7, f8, h7, h8]
                        · have e7 : ¬ (1 : Int) ≤ ps.length := by omega
                          have f7 : (ps.length : Int) < 1 := by omega
                          simp [e7, f7, h7]
                      | _ => simp [isTup]
                    · simp [b_law_is_term, startD, c_law_is_atom O ny hz, h5, shT_3]
                · have : shT (.tup (.str w :: y :: r)) = false := by
                    match r with
                    | [] => simp [shT, h1, h2, h3]
                    | [z] => simp [shT_3, h4]
                    | z :: u :: r => simp [shT_z4]
                  simp [b_law_is_term, startD, e0, h1, h2, h3, h4, this]
        | _ =>
          simp [b_law_is_term, startD, e0]
          match r with
          | [] => rfl
          | [z] => cases z <;> rfl
          | z :: u :: r => simp [shT_z4]
    | _ => simp [b_law_is_term, startD, shT]
end

def many (w : Str) : Int := if w = "true" then 1 else if w = "false" then 1 else if w = "not" then 2 else if w = "same" then 3 else if w = "and" then 3 else if w = "or" then 3 else if w = "some" then 3 else if w = "all" then 3 else 0
def tbl : List (Key × D) := [(.inr "true", .int 1), (.inr "false", .int 1), (.inr "not", .int 2), (.inr "same", .int 3), (.inr "and", .int 3), (.inr "or", .int 3), (.inr "some", .int 3), (.inr "all", .int 3)]
theorem tbl_made : dictM [.str "true", .int 1, .str "false", .int 1, .str "not", .int 2, .str "same", .int 3, .str "and", .int 3, .str "or", .int 3, .str "some", .int 3, .str "all", .int 3] [] = alloc (.dct tbl) := by
  simp [dictM, keyD, putKD, tbl]
theorem tbl_get (w : Str) : (getKD tbl (.inr w)).getD (.int 0) = .int (many w) := by
  simp only [getKD, tbl, many, List.find?]
  by_cases h1 : w = "true"
  · simp [h1]
  by_cases h2 : w = "false"
  · simp [h2]
  by_cases h3 : w = "not"
  · simp [h3]
  by_cases h4 : w = "same"
  · simp [h4]
  by_cases h5 : w = "and"
  · simp [h5]
  by_cases h6 : w = "or"
  · simp [h6]
  by_cases h7 : w = "some"
  · simp [h7]
  by_cases h8 : w = "all"
  · simp [h8]
  simp [Ne.symm h1, Ne.symm h2, Ne.symm h3, Ne.symm h4, Ne.symm h5, Ne.symm h6, Ne.symm h7, Ne.symm h8, h1, h2, h3, h4, h5, h6, h7, h8]
theorem fairs_mem {xs : List D} (h : fairs xs = true) {x : D} (hx : x ∈ xs) : fair x = true := by
  induction xs with
  | nil => cases hx
  | cons y ys ih =>
    simp only [fairs, Bool.and_eq_true] at h
    rcases List.mem_cons.mp hx with rfl | hx
    · exact h.1
    · exact ih h.2 hx
section
variable {T : Prog} (O : TOk T)
include O
theorem c_is_shaped : ∀ (n k : Nat) (v : D), pl v = true → fair v = true → n ≤ 64 → depD v ≤ n → n + 4 ≤ k → callI T k 28 [v] = M.pure (.bl (shF v)) := by
  intro n
  induction n with
  | zero =>
    intro k v hp hf hn hd hk
    obtain ⟨k, rfl⟩ : ∃ j, k = j + 1 := ⟨k - 1, by omega⟩
    refine tell (n := 4) (np := 1) (b := b_law_is_shaped) (dr := true) (by rw [O.fns]; rfl) rfl fun h => ?_
    cases v with
    | tup xs => simp [depD] at hd
    | ref _ => simp [pl] at hp
    | _ =>
      simp [b_law_is_shaped, startD, shF]
  | succ n ih =>
    intro k v hp hf hn hd hk
    obtain ⟨k, rfl⟩ : ∃ j, k = j + 4 := ⟨k - 4, by omega⟩
    refine tell (n := 4) (np := 1) (b := b_law_is_shaped) (dr := true) (by rw [O.fns]; rfl) rfl fun h => ?_
    have h0 : cmpM .eq v (.tup []) = PX.ret (.bl (eqD v (.tup []))) := cmp_eq_fair hf rfl (by omega) (by decide)
    cases v with
    | ref _ => simp [pl] at hp
    | tup xs =>
      cases xs with
      | nil =>
        simp [b_law_is_shaped, startD, h0, eqD, eqDs, shF]
        | cons x xs =>
        have nx : nr x = true := by cases x <;> simp [pl, pls, nr] at hp ⊢
        cases x with
        | ref _ => cases nx
        | str w =>
          have tg := tbl_get w
          have hps : pls xs = true := by
            simp [pl, pls] at hp
            exact hp.2.2
          have hfs : fairs xs = true := by
            simp [fair, fairs] at hf
            exact hf.2
          have hds : depDs xs ≤ n := by
            simp [depD, depDs] at hd
            omega
          by_cases w1 : w = "true" ∨ w = "false"
          · have m1 : many w = 1 := by rcases w1 with rfl | rfl <;> simp [many]
            match xs with
            | [] => rcases w1 with rfl | rfl <;> simp [b_law_is_shaped, startD, h0, eqD, eqDs, tbl_made, tg, m1, shF, compI, all_nil]
            | x :: xs =>
              have e : shF (.tup (.str w :: x :: xs)) = false := by
                match xs with
                | [] | [_] | _ :: _ :: _ => rcases w1 with rfl | rfl <;> simp [shF]
              have e2 : ¬ (xs.length : Int) + 1 + 1 = 1 := by omega
              simp [b_law_is_shaped, startD, h0, eqD, eqDs, tbl_made, tg, m1, e, e2]
          · have w1' : ¬ w = "true" ∧ ¬ w = "false" := by simpa using w1
            by_cases w3 : w = "not"
            · subst w3
              have m1 : many "not" = 2 := by simp [many]
              match xs with
              | [] => simp [b_law_is_shaped, startD, h0, eqD, eqDs, tbl_made, tg, m1, shF]
              | [a] =>
                simp [b_law_is_shaped, startD, h0, eqD, eqDs, tbl_made, tg, m1]
                refine wp_comp (fun x => .bl (shF x)) ?_ (by simp) ?_
                · intro x hx
                  simp [ih (k + 3) x (pls_mem hps hx) (fairs_mem hfs hx) (by omega) (depDs_mem hds hx) (by omega)]
                · rw [all_map (p := shF)]
                  simp [shF]
              | x :: y :: xs =>
                have e : shF (.tup (.str "not" :: x :: y :: xs)) = false := by
                  match xs with
                  | [] | _ :: _ => simp [shF]
                have e2 : ¬ (xs.length : Int) + 1 + 1 + 1 = 2 := by omega
                simp [b_law_is_shaped, startD, h0, eqD, eqDs, tbl_made, tg, m1, e, e2]
            · by_cases w6 : w = "same" ∨ w = "and" ∨ w = "or" ∨ w = "some" ∨ w = "all"
              · have m1 : many w = 3 := by rcases w6 with rfl | rfl | rfl | rfl | rfl <;> simp [many]
                match xs with
                | [] => simp [b_law_is_shaped, startD, h0, eqD, eqDs, tbl_made, tg, m1, shF, w1]
                | [a] => simp [b_law_is_shaped, startD, h0, eqD, eqDs, tbl_made, tg, m1, shF, w3]
                | x :: y :: z :: xs =>
                  have e : shF (.tup (.str w :: x :: y :: z :: xs)) = false := by simp [shF]
                  have e2 : ¬ (xs.length : Int) + 1 + 1 + 1 + 1 = 3 := by omega
                  simp [b_law_is_shaped, startD, h0, eqD, eqDs, tbl_made, tg, m1, e, e2]
                | [a, b] =>
                  have ma : a ∈ [a, b] := by simp
                  have mb : b ∈ [a, b] := by simp
                  by_cases w2 : w = "same"
                  · subst w2
                    have ta := c_law_is_term O n (k + 3) a (pls_mem hps ma) (depDs_mem hds ma) (by omega)
                    have tb := c_law_is_term O n (k + 3) b (pls_mem hps mb) (depDs_mem hds mb) (by omega)
                    by_cases sa : shT a = true
                    · simp [b_law_is_shaped, startD, h0, eqD, eqDs, tbl_made, tg, m1, ta, tb, sa, shF]
                    · simp [b_law_is_shaped, startD, h0, eqD, eqDs, tbl_made, tg, m1, ta, tb, sa, shF]
                  · by_cases w5 : w = "some" ∨ w = "all"
                    · have w5' : ("some" : Str) = w ∨ ("all" : Str) = w := w5.imp Eq.symm Eq.symm
                      have w4 : ¬ (w = "and" ∨ w = "or") := by rcases w5 with rfl | rfl <;> simp
                      have na : nr a = true := by
                        have := pls_mem hps ma
                        cases a <;> simp [pl, nr] at this ⊢
                      have tb := ih (k + 3) b (pls_mem hps mb) (fairs_mem hfs mb) (by omega) (depDs_mem hds mb) (by omega)
                      by_cases sa : isVar a = true
                      · simp [b_law_is_shaped, startD, h0, eqD, eqDs, tbl_made, tg, m1, tb, sa, shF, w2, w4, w5, w5', c_is_number O na, inR_var]
                      · simp [b_law_is_shaped, startD, h0, eqD, eqDs, tbl_made, tg, m1, tb, sa, shF, w2, w4, w5, w5', c_is_number O na, inR_var]
                    · have w5' : ¬ (("some" : Str) = w ∨ ("all" : Str) = w) := fun e => w5 (e.imp Eq.symm Eq.symm)
                      have w4 : w = "and" ∨ w = "or" := by
                        rcases w6 with h | h | h | h | h
                        · exact absurd h w2
                        · exact .inl h
                        · exact .inr h
                        · exact absurd (.inl h) w5
                        · exact absurd (.inr h) w5
                      simp [b_law_is_shaped, startD, h0, eqD, eqDs, tbl_made, tg, m1, w2, w5']
                      refine wp_comp (fun x => .bl (shF x)) ?_ (by simp) ?_
                      · intro x hx
                        simp [ih (k + 3) x (pls_mem hps hx) (fairs_mem hfs hx) (by omega) (depDs_mem hds hx) (by omega)]
                      · rw [all_map (p := shF)]
                        simp [shF, w2, w4]
              · have w6' : ¬ w = "same" ∧ ¬ w = "and" ∧ ¬ w = "or" ∧ ¬ w = "some" ∧ ¬ w = "all" := by simpa using w6
                have m1 : many w = 0 := by simp [many, w1', w3, w6']
                have e : shF (.tup (.str w :: xs)) = false := by
                  match xs with
                  | [] => simp [shF, w1]
                  | [_] => simp [shF, w3]
                  | [_, _] => simp [shF, w6']
                  | _ :: _ :: _ :: _ => simp [shF]
                have e2 : ¬ (xs.length : Int) + 1 = 0 := by omega
                simp [b_law_is_shaped, startD, h0, eqD, eqDs, tbl_made, tg, m1, e, e2]
        | _ =>
          simp [b_law_is_shaped, startD, h0, eqD, eqDs, shF]
    | _ =>
      simp [b_law_is_shaped, startD, shF]
end

/-- parts with what is measured of them -/
abbrev Pts := List (D × Option (Nat × Nat))
def szP : Pts → Nat
  | [] => 0
  | (_, none) :: r => szP r
  | (_, some (s, _)) :: r => s + szP r
def dpP : Pts → Nat
  | [] => 0
  | (_, none) :: r => dpP r
  | (_, some (_, m)) :: r => max m (dpP r)
theorem szP_app (a b : Pts) : szP (a ++ b) = szP a + szP b := by
  induction a with
  | nil => simp [szP]
  | cons x a ih =>
    obtain ⟨d, _ | ⟨s, m⟩⟩ := x <;> simp [szP, ih]
    try omega
theorem dpP_app (a b : Pts) : dpP (a ++ b) = max (dpP a) (dpP b) := by
  induction a with
  | nil => simp [dpP]
  | cons x a ih =>
    obtain ⟨d, _ | ⟨s, m⟩⟩ := x <;> simp [dpP, ih]
    try omega
theorem Tm.d_tup (t : Tm) : isTup t.d = true := by cases t <;> rfl
theorem Fm.d_tup (t : Fm) : isTup t.d = true := by cases t <;> rfl
theorem ds_map (ts : List Tm) : Tm.ds ts = ts.map Tm.d := by
  induction ts with
  | nil => rfl
  | cons t ts ih => simp [Tm.ds, ih]
theorem pts_sz (ts : List Tm) : szP (ts.map fun t => (t.d, some (t.size, t.deep))) = Tm.sizes ts ∧ dpP (ts.map fun t => (t.d, some (t.size, t.deep))) = Tm.deeps ts := by
  induction ts with
  | nil => exact ⟨rfl, rfl⟩
  | cons t ts ih => simp [szP, dpP, Tm.sizes, Tm.deeps, ih]
mutual
theorem Tm.deep_dep : ∀ t : Tm, t.deep ≤ depD t.d
  | .var _ | .int _ | .atom _ => by simp [Tm.deep, Tm.d, depD, depDs]
  | .tup s ps => by
    have := Tm.deeps_dep ps
    simp [Tm.deep, Tm.d, depD, depDs]
    omega
theorem Tm.deeps_dep : ∀ ts : List Tm, Tm.deeps ts ≤ depDs (Tm.ds ts)
  | [] => by simp [Tm.deeps]
  | t :: ts => by
    have := t.deep_dep
    have := Tm.deeps_dep ts
    simp [Tm.deeps, Tm.ds, depDs]
    omega
end
theorem Fm.deep_dep : ∀ t : Fm, t.deep ≤ depD t.d
  | .tt | .ff => by simp [Fm.deep, Fm.d, depD, depDs]
  | .same a b => by
    have := a.deep_dep
    have := b.deep_dep
    simp [Fm.deep, Fm.d, depD, depDs]
    omega
  | .and a b | .or a b => by
    have := a.deep_dep
    have := b.deep_dep
    simp [Fm.deep, Fm.d, depD, depDs]
    omega
  | .not a | .some _ a | .all _ a => by
    have := a.deep_dep
    simp [Fm.deep, Fm.d, depD, depDs]
    omega
section
variable {T : Prog} (O : TOk T)
include O
theorem c_measure_gen {k : Nat} {w : Str} {rest : List D} {ps : Pts} (hparts : (w = "tuple" ∧ ∃ a, rest = [a, .tup (ps.map Prod.fst)]) ∨ (¬ w = "tuple" ∧ rest = ps.map Prod.fst))
    (ok : ∀ p ∈ ps, match p.2 with
      | none => nr p.1 = true ∧ isTup p.1 = false
      | some (s, m) => isTup p.1 = true ∧ callI T k 22 [p.1] = M.pure (.tup [.int (s : Nat), .int (m : Nat)])) :
    callI T (k + 1) 22 [.tup (.str w :: rest)] = M.pure (.tup [.int ((1 + szP ps : Nat) : Int), .int ((dpP ps + 1 : Nat) : Int)]) := by
  refine tell (n := 7) (np := 1) (b := b_law_measure) (dr := false) (by rw [O.fns]; rfl) rfl fun h => ?_
  have key : ∀ (v pr : D) (body : D → Sg → M Out) , (∀ (x : D) (s m : Nat) (a b c : Option D), (nr x = true → isTup x = false → body x [some v, some (.int s), some (.int m), some pr, a, b, c] = M.pure (.nx [some v, some (.int s), some (.int m), some pr, some x, b, c])) ∧ (∀ s2 m2 : Nat, isTup x = true → callI T k 22 [x] = M.pure (.tup [.int s2, .int m2]) → body x [some v, some (.int s), some (.int m), some pr, a, b, c] = M.pure (.nx [some v, some (.int ((s + s2 : Nat) : Int)), some (.int ((max m m2 : Nat) : Int)), some pr, some x, some (.int s2), some (.int m2)]))) →
      Wp (loopI body [] (ps.map Prod.fst) [some v, some (.int ((1 : Nat) : Int)), some (.int ((0 : Nat) : Int)), some pr, none, none, none]) h (fun o h' => h' = h ∧ ∃ a b c, o = .nx [some v, some (.int ((1 + szP ps : Nat) : Int)), some (.int (dpP ps : Nat)), some pr, a, b, c]) := by
    intro v pr body hb
    refine wp_loop_rel Prod.fst (fun pre σ h' => h' = h ∧ ∃ a b c, σ = [some v, some (.int ((1 + szP pre : Nat) : Int)), some (.int (dpP pre : Nat)), some pr, a, b, c]) ⟨rfl, none, none, none, rfl⟩ ?_ ?_
    · rintro pre y post σ h' e1 ⟨rfl, a, b, c, rfl⟩
      have hy := ok y (by rw [e1]; simp)
      obtain ⟨d, _ | ⟨s, m⟩⟩ := y
      · rw [(hb d _ _ a b c).1 hy.1 hy.2]
        refine ⟨rfl, some d, b, c, ?_⟩
        simp [szP_app, dpP_app, szP, dpP]
      · rw [(hb d _ _ a b c).2 s m hy.1 hy.2]
        refine ⟨rfl, some d, some (.int s), some (.int m), ?_⟩
        simp [szP_app, dpP_app, szP, dpP]
        omega
    · rintro σ h' ⟨rfl, a, b, c, rfl⟩
      exact ⟨rfl, a, b, c, rfl⟩
  rcases hparts with ⟨rfl, a, rfl⟩ | ⟨hw, rfl⟩
  · simp [b_law_measure, startD]
    refine (key _ _ _ ?_).mono ?_
    · intro x s m a b c
      constructor
      · intro nx tx
        simp [isi_tuple1 nx, tx]
      · intro s2 m2 tx e
        have nx : nr x = true := by cases x <;> first | rfl | cases tx
        have hm : ((max m m2 : Nat) : Int) = max (m : Int) (m2 : Int) := by omega
        simp [isi_tuple1 nx, tx, e, hm]
    · rintro _ _ ⟨rfl, a, b, c, rfl⟩
      simp
  · simp [b_law_measure, startD, hw]
    refine (key _ _ _ ?_).mono ?_
    · intro x s m a b c
      constructor
      · intro nx tx
        simp [isi_tuple1 nx, tx]
      · intro s2 m2 tx e
        have nx : nr x = true := by cases x <;> first | rfl | cases tx
        have hm : ((max m m2 : Nat) : Int) = max (m : Int) (m2 : Int) := by omega
        simp [isi_tuple1 nx, tx, e, hm]
    · rintro _ _ ⟨rfl, a, b, c, rfl⟩
      simp
theorem c_measure {k : Nat} {w : Str} {rest : List D} (ps : Pts) {S Dp : Nat} (hparts : (w = "tuple" ∧ ∃ a, rest = [a, .tup (ps.map Prod.fst)]) ∨ (¬ w = "tuple" ∧ rest = ps.map Prod.fst)) (hs : S = 1 + szP ps) (hd : Dp = dpP ps + 1)
    (ok : ∀ p ∈ ps, match p.2 with
      | none => nr p.1 = true ∧ isTup p.1 = false
      | some (s, m) => isTup p.1 = true ∧ callI T k 22 [p.1] = M.pure (.tup [.int (s : Nat), .int (m : Nat)])) :
    callI T (k + 1) 22 [.tup (.str w :: rest)] = M.pure (.tup [.int (S : Int), .int (Dp : Int)]) := by
  rw [hs, hd]
  exact c_measure_gen O hparts ok
mutual
theorem meas_tm : ∀ (t : Tm) (k : Nat), t.deep ≤ k → callI T k 22 [t.d] = M.pure (.tup [.int (t.size : Nat), .int (t.deep : Nat)])
  | .var n, k, hk | .int n, k, hk => by
    simp only [Tm.deep] at hk
    obtain ⟨k, rfl⟩ : ∃ j, k = j + 1 := ⟨k - 1, by omega⟩
    exact c_measure O [(.int n, none)] (.inr ⟨by simp, rfl⟩) rfl rfl (by simp [nr, isTup])
  | .atom n, k, hk => by
    simp only [Tm.deep] at hk
    obtain ⟨k, rfl⟩ : ∃ j, k = j + 1 := ⟨k - 1, by omega⟩
    exact c_measure O [(.str n, none)] (.inr ⟨by simp, rfl⟩) rfl rfl (by simp [nr, isTup])
  | .tup s ps, k, hk => by
    simp only [Tm.deep] at hk
    obtain ⟨k, rfl⟩ : ∃ j, k = j + 1 := ⟨k - 1, by omega⟩
    refine c_measure O (k := k) (w := "tuple") (ps.map fun t => (t.d, some (t.size, t.deep))) (.inl ⟨rfl, .str s, by rw [ds_map]; simp [Function.comp_def]⟩) (by simp [Tm.size, (pts_sz ps).1]; omega) (by simp [Tm.deep, (pts_sz ps).2]) ?_
    intro p hp
    obtain ⟨t, ht, rfl⟩ := List.mem_map.mp hp
    exact ⟨t.d_tup, meas_tms ps k (by omega) t ht⟩
theorem meas_tms : ∀ (ts : List Tm) (k : Nat), Tm.deeps ts ≤ k → ∀ t ∈ ts, callI T k 22 [t.d] = M.pure (.tup [.int (t.size : Nat), .int (t.deep : Nat)])
  | [], _, _, t, ht => by cases ht
  | u :: ts, k, hk, t, ht => by
    simp only [Tm.deeps] at hk
    rcases List.mem_cons.mp ht with e | ht
    · rw [e]
      exact meas_tm u k (by omega)
    · exact meas_tms ts k (by omega) t ht
end
theorem meas_fm : ∀ (t : Fm) (k : Nat), t.deep ≤ k → callI T k 22 [t.d] = M.pure (.tup [.int (t.size : Nat), .int (t.deep : Nat)])
  | .tt, k, hk | .ff, k, hk => by
    simp only [Fm.deep] at hk
    obtain ⟨k, rfl⟩ : ∃ j, k = j + 1 := ⟨k - 1, by omega⟩
    exact c_measure O [] (.inr ⟨by simp, rfl⟩) rfl rfl (by simp)
  | .same a b, k, hk => by
    simp only [Fm.deep] at hk
    obtain ⟨k, rfl⟩ : ∃ j, k = j + 1 := ⟨k - 1, by omega⟩
    refine c_measure O [(a.d, some (a.size, a.deep)), (b.d, some (b.size, b.deep))] (.inr ⟨by simp, rfl⟩) (by simp [Fm.size, szP]; omega) (by simp [Fm.deep, dpP]) ?_
    simp [a.d_tup, b.d_tup, meas_tm O a k (by omega), meas_tm O b k (by omega)]
  | .and a b, k, hk | .or a b, k, hk => by
    simp only [Fm.deep] at hk
    obtain ⟨k, rfl⟩ : ∃ j, k = j + 1 := ⟨k - 1, by omega⟩
    refine c_measure O [(a.d, some (a.size, a.deep)), (b.d, some (b.size, b.deep))] (.inr ⟨by simp, rfl⟩) (by simp [Fm.size, szP]; omega) (by simp [Fm.deep, dpP]) ?_
    simp [a.d_tup, b.d_tup, meas_fm a k (by omega), meas_fm b k (by omega)]
  | .not a, k, hk => by
    simp only [Fm.deep] at hk
    obtain ⟨k, rfl⟩ : ∃ j, k = j + 1 := ⟨k - 1, by omega⟩
    refine c_measure O [(a.d, some (a.size, a.deep))] (.inr ⟨by simp, rfl⟩) (by simp [Fm.size, szP]; omega) (by simp [Fm.deep, dpP]) ?_
    simp [a.d_tup, meas_fm a k (by omega)]
  | .some n a, k, hk | .all n a, k, hk => by
    simp only [Fm.deep] at hk
    obtain ⟨k, rfl⟩ : ∃ j, k = j + 1 := ⟨k - 1, by omega⟩
    refine c_measure O [(.int n, none), (a.d, some (a.size, a.deep))] (.inr ⟨by simp, rfl⟩) (by simp [Fm.size, szP]; omega) (by simp [Fm.deep, dpP]) ?_
    simp [a.d_tup, meas_fm a k (by omega), nr]
    rfl
/-- what is due -/
def dueF (v : D) : Bool := (partF v 0 1).1
theorem c_due {k : Nat} {v : D} (hp : pl v = true) (hf : fair v = true) (hd : depD v ≤ 64) (hk : depD v + 4 ≤ k) : callI T (k + 1) 29 [v] = M.pure (.bl (partF v 0 1).1) := by
  refine tell (n := 3) (np := 1) (b := b_law_due) (dr := false) (by rw [O.fns]; rfl) rfl fun h => ?_
  have hs := c_is_shaped O (depD v) k v hp hf hd (Nat.le_refl _) hk
  by_cases sh : shF v = true
  · obtain ⟨f, hof, rfl⟩ := shF_fm v sh
    have hm := meas_fm O f k (by have := f.deep_dep; omega)
    have e := (partF_fm f 0 1 hof (by omega) (by omega)).1
    simp [b_law_due, startD, hs, sh, hm, e]
    by_cases h1 : f.size ≤ 120
    · have h1' : (f.size : Int) ≤ 120 := by omega
      simp [h1']
      omega
    · have h1' : ¬ (f.size : Int) ≤ 120 := by omega
      simp [h1']
  · have e : (partF v 0 1).1 = false := by
      cases z : (partF v 0 1).1 with
      | false => rfl
      | true => exact absurd (partF_sh v 0 1 z) sh
    simp [b_law_due, startD, hs, sh, e]
end

mutual
def Tm.vars : Tm → List Int
  | .var n => [n]
  | .tup _ ps => Tm.varss ps
  | _ => []
def Tm.varss : List Tm → List Int
  | [] => []
  | t :: ts => t.vars ++ Tm.varss ts
end
mutual
theorem Tm.vars_len : ∀ t : Tm, t.vars.length ≤ t.size
  | .var _ => by simp [Tm.vars, Tm.size]
  | .int _ | .atom _ => by simp [Tm.vars]
  | .tup _ ps => by
    have := Tm.varss_len ps
    simp [Tm.vars, Tm.size]
    omega
theorem Tm.varss_len : ∀ ts : List Tm, (Tm.varss ts).length ≤ Tm.sizes ts
  | [] => by simp [Tm.varss]
  | t :: ts => by
    have := t.vars_len
    have := Tm.varss_len ts
    simp [Tm.varss, Tm.sizes]
    omega
end
theorem varss_flat (ts : List Tm) : Tm.varss ts = ts.flatMap Tm.vars := by
  induction ts with
  | nil => rfl
  | cons t ts ih => simp [Tm.varss, ih]
/-- as the program meets them -/
def Fm.frees : Fm → List Int → List Int
  | .tt, _ | .ff, _ => []
  | .same a b, bd => (a.vars.filter fun n => !(decide (n ∈ bd))) ++ (b.vars.filter fun n => !(decide (n ∈ bd)))
  | .not f, bd => f.frees bd
  | .and f g, bd | .or f g, bd => f.frees bd ++ g.frees bd
  | .some n f, bd | .all n f, bd => f.frees (bd ++ [n])
def norm (l : List Int) : List Int := sortI (ddup l)
theorem mem_norm {l : List Int} {x : Int} : x ∈ norm l ↔ x ∈ l := by rw [norm, mem_sortI, mem_ddup]
theorem norm_len (l : List Int) : (norm l).length ≤ l.length := by
  rw [norm, len_sortI]
  exact (nodup_ddup l).length_le_of_subset fun x hx => mem_ddup.mp hx
/-- as the law tells them -/
def Fm.lfree : Fm → List Int
  | .tt | .ff => norm []
  | .same a b => norm (a.vars ++ b.vars)
  | .not f => norm f.lfree
  | .and f g | .or f g => norm (f.lfree ++ g.lfree)
  | .some n f | .all n f => norm (f.lfree.filter fun m => m != n)
theorem Fm.frees_len : ∀ (f : Fm) (bd : List Int), (f.frees bd).length ≤ f.size
  | .tt, _ | .ff, _ => by simp [Fm.frees]
  | .same a b, bd => by
    have := a.vars_len
    have := b.vars_len
    have := List.length_filter_le (fun n => !(decide (n ∈ bd))) a.vars
    have := List.length_filter_le (fun n => !(decide (n ∈ bd))) b.vars
    simp only [Fm.frees, Fm.size, List.length_append]
    omega
  | .not f, bd => by
    have := f.frees_len bd
    simp only [Fm.frees, Fm.size]
    omega
  | .and f g, bd | .or f g, bd => by
    have := f.frees_len bd
    have := g.frees_len bd
    simp only [Fm.frees, Fm.size, List.length_append]
    omega
  | .some n f, bd | .all n f, bd => by
    have := f.frees_len (bd ++ [n])
    simp only [Fm.frees, Fm.size]
    omega
theorem Fm.lfree_len : ∀ f : Fm, f.lfree.length ≤ f.size
  | .tt | .ff => by
    have := norm_len []
    simp only [Fm.lfree, Fm.size]
    simp at this
    simp [this]
  | .same a b => by
    have := a.vars_len
    have := b.vars_len
    have := norm_len (a.vars ++ b.vars)
    simp only [Fm.lfree, Fm.size]
    simp only [List.length_append] at this
    omega
  | .not f => by
    have := f.lfree_len
    have := norm_len f.lfree
    simp only [Fm.lfree, Fm.size]
    omega
  | .and f g | .or f g => by
    have := f.lfree_len
    have := g.lfree_len
    have := norm_len (f.lfree ++ g.lfree)
    simp only [Fm.lfree, Fm.size]
    simp only [List.length_append] at this
    omega
  | .some n f | .all n f => by
    have := f.lfree_len
    have := norm_len (f.lfree.filter fun m => m != n)
    have := List.length_filter_le (fun m => m != n) f.lfree
    simp only [Fm.lfree, Fm.size]
    omega
theorem Fm.frees_mem : ∀ (f : Fm) (bd : List Int) (x : Int), x ∈ f.frees bd ↔ x ∈ f.lfree ∧ ¬ x ∈ bd
  | .tt, _, _ | .ff, _, _ => by simp [Fm.frees, Fm.lfree, mem_norm]
  | .same a b, bd, x => by
    simp only [Fm.frees, Fm.lfree, mem_norm, List.mem_append, List.mem_filter, Bool.not_eq_true', decide_eq_false_iff_not, or_and_right]
  | .not f, bd, x => by simp only [Fm.frees, Fm.lfree, mem_norm, f.frees_mem bd x]
  | .and f g, bd, x | .or f g, bd, x => by simp only [Fm.frees, Fm.lfree, mem_norm, List.mem_append, f.frees_mem bd x, g.frees_mem bd x, or_and_right]
  | .some n f, bd, x | .all n f, bd, x => by
    simp only [Fm.frees, Fm.lfree, mem_norm, f.frees_mem (bd ++ [n]) x, List.mem_append, List.mem_filter, List.mem_cons, List.not_mem_nil, or_false, not_or, bne_iff_ne, ne_eq]
    constructor
    · rintro ⟨h1, h2, h3⟩
      exact ⟨⟨h1, h3⟩, h2⟩
    · rintro ⟨⟨h1, h3⟩, h2⟩
      exact ⟨h1, h2, h3⟩
/-- the two tell the same -/
theorem free_same (f : Fm) : sortI (keysOf (f.frees [])) = f.lfree := by
  have key : ∃ l, f.lfree = norm l := by cases f <;> exact ⟨_, rfl⟩
  obtain ⟨l, e⟩ := key
  rw [e, norm]
  refine sortI_same (nodup_keysOf _) (nodup_ddup _) fun x => ?_
  rw [mem_keysOf, mem_ddup, Fm.frees_mem, e, mem_norm]
  simp
/-! all whole numbers in a value are among some -/
mutual
def allI (S : List Int) : D → Bool
  | .int i => decide (i ∈ S)
  | .tup xs => allIs S xs
  | .lst xs => allIs S xs
  | _ => true
def allIs (S : List Int) : List D → Bool
  | [] => true
  | x :: xs => allI S x && allIs S xs
end
mutual
theorem Tm.vars_all (S : List Int) : ∀ t : Tm, allI S t.d = true → ∀ x ∈ t.vars, x ∈ S
  | .var n, h, x, hx => by
    simp [Tm.vars] at hx
    subst hx
    simpa [Tm.d, allI, allIs] using h
  | .int _, _, x, hx | .atom _, _, x, hx => by simp [Tm.vars] at hx
  | .tup _ ps, h, x, hx => by
    simp only [Tm.vars] at hx
    simp [Tm.d, allI, allIs] at h
    exact Tm.varss_all S ps h x hx
theorem Tm.varss_all (S : List Int) : ∀ ts : List Tm, allIs S (Tm.ds ts) = true → ∀ x ∈ Tm.varss ts, x ∈ S
  | [], _, x, hx => by simp [Tm.varss] at hx
  | t :: ts, h, x, hx => by
    simp only [Tm.ds, allIs, Bool.and_eq_true] at h
    simp only [Tm.varss, List.mem_append] at hx
    rcases hx with hx | hx
    · exact t.vars_all S h.1 x hx
    · exact Tm.varss_all S ts h.2 x hx
end
theorem Fm.lfree_all (S : List Int) : ∀ f : Fm, allI S f.d = true → ∀ x ∈ f.lfree, x ∈ S
  | .tt, _, x, hx | .ff, _, x, hx => by simp [Fm.lfree, mem_norm] at hx
  | .same a b, h, x, hx => by
    simp only [Fm.lfree, mem_norm, List.mem_append] at hx
    simp [Fm.d, allI, allIs] at h
    rcases hx with hx | hx
    · exact a.vars_all S h.1 x hx
    · exact b.vars_all S h.2 x hx
  | .not f, h, x, hx => by
    simp only [Fm.lfree, mem_norm] at hx
    simp [Fm.d, allI, allIs] at h
    exact f.lfree_all S h x hx
  | .and f g, h, x, hx | .or f g, h, x, hx => by
    simp only [Fm.lfree, mem_norm, List.mem_append] at hx
    simp [Fm.d, allI, allIs] at h
    rcases hx with hx | hx
    · exact f.lfree_all S h.1 x hx
    · exact g.lfree_all S h.2 x hx
  | .some n f, h, x, hx | .all n f, h, x, hx => by
    simp only [Fm.lfree, mem_norm, List.mem_filter] at hx
    simp [Fm.d, allI, allIs] at h
    exact f.lfree_all S h.2 x hx.1
section
variable {T : Prog} (O : TOk T)
include O
mutual
theorem c_vars : ∀ (t : Tm) (k : Nat), t.deep ≤ k → t.size ≤ lim → callI T k 11 [t.d] = M.pure (.lst (t.vars.map .int))
  | .var n, k, hk, hs => by
    simp only [Tm.deep] at hk
    obtain ⟨k, rfl⟩ : ∃ j, k = j + 1 := ⟨k - 1, by omega⟩
    refine tell (n := 3) (np := 1) (b := b_variables_of) (dr := false) (by rw [O.fns]; rfl) rfl fun h => ?_
    simp [b_variables_of, startD, Tm.d, Tm.vars]
  | .int n, k, hk, hs | .atom n, k, hk, hs => by
    simp only [Tm.deep] at hk
    obtain ⟨k, rfl⟩ : ∃ j, k = j + 1 := ⟨k - 1, by omega⟩
    refine tell (n := 3) (np := 1) (b := b_variables_of) (dr := false) (by rw [O.fns]; rfl) rfl fun h => ?_
    simp [b_variables_of, startD, Tm.d, Tm.vars]
  | .tup s ps, k, hk, hs => by
    simp only [Tm.deep, Tm.size] at hk hs
    obtain ⟨k, rfl⟩ : ∃ j, k = j + 1 := ⟨k - 1, by omega⟩
    refine tell (n := 3) (np := 1) (b := b_variables_of) (dr := false) (by rw [O.fns]; rfl) rfl fun h => ?_
    simp [b_variables_of, startD, Tm.d, Tm.vars, ds_map]
    have hv := Tm.varss_len ps
    refine wp_comps (fun t => t.vars.map .int) ?_ ?_ ?_
    · intro t ht acc hl
      simp [c_varss ps k (by omega) (by omega) t ht]
      rw [compI_pure (f := .int) (g := .int)]
      · intro x _
        simp
      · simpa using hl
    · rw [varss_flat] at hv
      simp [List.length_flatMap] at hv ⊢
      omega
    · simp [varss_flat, List.map_flatMap]
theorem c_varss : ∀ (ts : List Tm) (k : Nat), Tm.deeps ts ≤ k → Tm.sizes ts ≤ lim → ∀ t ∈ ts, callI T k 11 [t.d] = M.pure (.lst (t.vars.map .int))
  | [], _, _, _, t, ht => by cases ht
  | u :: ts, k, hk, hs, t, ht => by
    simp only [Tm.deeps, Tm.sizes] at hk hs
    rcases List.mem_cons.mp ht with e | ht
    · rw [e]
      exact c_vars u k (by omega) (by omega)
    · exact c_varss ts k (by omega) (by omega) t ht
end
end

@[simp ↓] theorem cmp_isn_int (i : Int) : cmpM .isn (.int i) .non = PX.ret (.bl false) := rfl
@[simp ↓] theorem cmp_isn_bl (i : Bool) : cmpM .isn (.bl i) .non = PX.ret (.bl false) := rfl
@[simp ↓] theorem cmp_isn_str (i : Str) : cmpM .isn (.str i) .non = PX.ret (.bl false) := rfl
@[simp ↓] theorem cmp_isn_tup (i : List D) : cmpM .isn (.tup i) .non = PX.ret (.bl false) := rfl
@[simp ↓] theorem cmp_isn_lst (i : List D) : cmpM .isn (.lst i) .non = PX.ret (.bl false) := rfl
@[simp ↓] theorem cmp_isn_ref (i : Nat) : cmpM .isn (.ref i) .non = PX.ret (.bl false) := rfl
@[simp ↓] theorem cmp_isn_non : cmpM .isn .non .non = PX.ret (.bl true) := rfl
@[simp ↓] theorem cmp_isnn_int (i : Int) : cmpM .isnn (.int i) .non = PX.ret (.bl true) := rfl
@[simp ↓] theorem cmp_isnn_bl (i : Bool) : cmpM .isnn (.bl i) .non = PX.ret (.bl true) := rfl
@[simp ↓] theorem cmp_isnn_str (i : Str) : cmpM .isnn (.str i) .non = PX.ret (.bl true) := rfl
@[simp ↓] theorem cmp_isnn_tup (i : List D) : cmpM .isnn (.tup i) .non = PX.ret (.bl true) := rfl
@[simp ↓] theorem cmp_isnn_lst (i : List D) : cmpM .isnn (.lst i) .non = PX.ret (.bl true) := rfl
@[simp ↓] theorem cmp_isnn_ref (i : Nat) : cmpM .isnn (.ref i) .non = PX.ret (.bl true) := rfl
@[simp ↓] theorem cmp_isnn_non : cmpM .isnn .non .non = PX.ret (.bl false) := rfl
@[simp ↓] theorem cmp_eq_bl (i j : Bool) : cmpM .eq (.bl i) (.bl j) = PX.ret (.bl (decide (i = j))) := rfl
@[simp ↓] theorem cmp_ne_bl (i j : Bool) : cmpM .ne (.bl i) (.bl j) = PX.ret (.bl !(decide (i = j))) := rfl
theorem compI_pure_some {α : Type} {turn : D → M (Option D)} {g : α → D} {f : α → D} {p : α → Bool} : ∀ {xs : List α} {acc : List D}, (∀ x ∈ xs, turn (g x) = M.pure (if p x then some (f x) else none)) → acc.length + (xs.filter p).length ≤ lim → compI turn [] (xs.map g) acc = M.pure (acc ++ (xs.filter p).map f)
  | [], acc, _, _ => by funext h; simp [compI, M.pure]
  | x :: xs, acc, ht, hl => by
    funext h
    simp only [List.map_cons, compI, ht x List.mem_cons_self]
    cases hp : p x with
    | true =>
      simp only [List.filter_cons, hp, if_true, List.length_cons] at hl
      have hg : grdOk h [] = true ∧ acc.length < lim := ⟨rfl, by omega⟩
      simp only [hg, and_self, if_true]
      rw [compI_pure_some (fun y hy => ht y (List.mem_cons_of_mem _ hy)) (by simp; omega)]
      simp [hp]
    | false =>
      simp only [List.filter_cons, hp, Bool.false_eq_true, if_false] at hl
      have hg : grdOk h [] = true := rfl
      simp only [hg, if_true, Bool.false_eq_true, if_false]
      rw [compI_pure_some (fun y hy => ht y (List.mem_cons_of_mem _ hy)) (by omega)]
      simp [hp]
theorem noRefs_ints (n : Nat) (l : List Int) : noRefs n (l.map D.int) = true := by
  induction l with
  | nil => rfl
  | cons i l ih => simp [noRefs, noRef, ih]
section
variable {T : Prog} (O : TOk T)
include O
/-- the two in a formula of two terms -/
theorem c_frees : ∀ (f : Fm) (bd : List Int) (k : Nat), f.deep ≤ k → f.size ≤ 120 → bd.length + f.deep ≤ 1000 → callI T k 12 [f.d, .lst (bd.map .int)] = M.pure (.lst ((f.frees bd).map .int))
  | .tt, bd, k, hk, hs, hb | .ff, bd, k, hk, hs, hb => by
    simp only [Fm.deep] at hk
    obtain ⟨k, rfl⟩ : ∃ j, k = j + 1 := ⟨k - 1, by omega⟩
    refine tell (n := 6) (np := 2) (b := b_free_numbers) (dr := false) (by rw [O.fns]; rfl) rfl fun h => ?_
    simp [b_free_numbers, startD, Fm.d, Fm.frees]
    refine wp_comps (xs := ([] : List D)) (g := id) (fun _ => []) ?_ ?_ ?_
    · intro x hx
      cases hx
    · simp
    · simp
  | .same a b, bd, k, hk, hs, hb => by
    simp only [Fm.deep, Fm.size] at hk hs
    obtain ⟨k, rfl⟩ : ∃ j, k = j + 1 := ⟨k - 1, by omega⟩
    refine tell (n := 6) (np := 2) (b := b_free_numbers) (dr := false) (by rw [O.fns]; rfl) rfl fun h => ?_
    simp [b_free_numbers, startD, Fm.d]
    have l1 := List.length_filter_le (fun n => !(decide (n ∈ bd))) a.vars
    have l2 := List.length_filter_le (fun n => !(decide (n ∈ bd))) b.vars
    have := a.vars_len
    have := b.vars_len
    refine wp_comps (xs := [a, b]) (g := Tm.d) (fun t => (t.vars.filter fun n => !(decide (n ∈ bd))).map .int) ?_ ?_ ?_
    · intro t ht acc hl
      have e : callI T k 11 [t.d] = M.pure (.lst (t.vars.map .int)) := by
        rcases List.mem_cons.mp ht with rfl | ht
        · exact c_vars O t k (by omega) (by simp only [lim]; omega)
        · rw [List.mem_singleton] at ht
          subst ht
          exact c_vars O t k (by omega) (by simp only [lim]; omega)
      simp [e]
      rw [compI_pure_some (f := .int) (g := .int) (p := fun n => !(decide (n ∈ bd)))]
      · intro x _
        by_cases hx : x ∈ bd <;> simp [nin_ints, hx]
      · simpa using hl
    · simp only [List.map_cons, List.map_nil, List.length_map, List.sum_cons, List.sum_nil, lim]
      omega
    · simp [Fm.frees]
  | .not f, bd, k, hk, hs, hb => by
    simp only [Fm.deep, Fm.size] at hk hs hb
    obtain ⟨k, rfl⟩ : ∃ j, k = j + 1 := ⟨k - 1, by omega⟩
    refine tell (n := 6) (np := 2) (b := b_free_numbers) (dr := false) (by rw [O.fns]; rfl) rfl fun h => ?_
    simp [b_free_numbers, startD, Fm.d]
    have := f.frees_len bd
    refine wp_comps (xs := [f]) (g := Fm.d) (fun t => (t.frees bd).map .int) ?_ ?_ ?_
    · intro t ht acc hl
      rw [List.mem_singleton] at ht
      subst ht
      simp [c_frees t bd k (by omega) (by omega) (by omega)]
      rw [compI_pure (f := .int) (g := .int)]
      · intro x _
        simp
      · simpa using hl
    · simp [lim]
      omega
    · simp [Fm.frees]
  | .and f g, bd, k, hk, hs, hb | .or f g, bd, k, hk, hs, hb => by
    simp only [Fm.deep, Fm.size] at hk hs hb
    obtain ⟨k, rfl⟩ : ∃ j, k = j + 1 := ⟨k - 1, by omega⟩
    refine tell (n := 6) (np := 2) (b := b_free_numbers) (dr := false) (by rw [O.fns]; rfl) rfl fun h => ?_
    simp [b_free_numbers, startD, Fm.d]
    have := f.frees_len bd
    have := g.frees_len bd
    refine wp_comps (xs := [f, g]) (g := Fm.d) (fun t => (t.frees bd).map .int) ?_ ?_ ?_
    · intro t ht acc hl
      have e : callI T k 12 [t.d, .lst (bd.map .int)] = M.pure (.lst ((t.frees bd).map .int)) := by
        rcases List.mem_cons.mp ht with e | ht
        · rw [e]
          exact c_frees f bd k (by omega) (by omega) (by omega)
        · rw [List.mem_singleton] at ht
          rw [ht]
          exact c_frees g bd k (by omega) (by omega) (by omega)
      simp [e]
      rw [compI_pure (f := .int) (g := .int)]
      · intro x _
        simp
      · simpa using hl
    · simp [lim]
      omega
    · simp [Fm.frees]
  | .some n f, bd, k, hk, hs, hb | .all n f, bd, k, hk, hs, hb => by
    simp only [Fm.deep, Fm.size] at hk hs hb
    obtain ⟨k, rfl⟩ : ∃ j, k = j + 1 := ⟨k - 1, by omega⟩
    refine tell (n := 6) (np := 2) (b := b_free_numbers) (dr := false) (by rw [O.fns]; rfl) rfl fun h => ?_
    have e := c_frees f (bd ++ [n]) k (by omega) (by omega) (by simp; omega)
    have ea : binD .add (.lst (bd.map .int)) (.lst [.int n]) = retN ((bd ++ [n]).map .int) := by
      funext h
      have : bd.length + 1 ≤ lim := by simp only [lim]; omega
      simp [binD, asList, retN, this]
    simp only [List.map_append, List.map_cons, List.map_nil] at e
    simp [b_free_numbers, startD, Fm.d, ea, e, Fm.frees]
theorem c_free_of {k : Nat} {f : Fm} {h : Hs} {S : List Int} (hk : f.deep ≤ k) (hs : f.size ≤ 120) (hd : f.deep ≤ 500) (ha : allI S f.d = true) (hS : S.length < 64) : callI T (k + 1) 13 [f.d] h = .ok (.lst (f.lfree.map .int)) h := by
  have : Wp (callI T (k + 1) 13 [f.d]) h (fun d h' => d = .lst (f.lfree.map .int) ∧ h' = h) := by
    refine wp_callP (n := 2) (np := 1) (b := b_free_of) (dr := true) (by rw [O.fns]; rfl) rfl ?_
    have e := c_frees O f [] k hk hs (by simp; omega)
    rw [List.map_nil] at e
    have := f.frees_len []
    have l64 : (keysOf (f.frees [])).length < 64 := by
      refine Nat.lt_of_le_of_lt ((nodup_keysOf _).length_le_of_subset ?_) hS
      intro x hx
      have := (f.frees_mem [] x).mp (mem_keysOf.mp hx)
      exact f.lfree_all S ha x this.1
    simp [b_free_of, startD, e]
    refine wp_compK_trues ?_ ?_ ?_
    · intro i _
      simp
    · simp only [lim]; omega
    · rw [wp_sorted_keys (get_last _ _) l64]
      simp
      refine (fin_drop ?_).mpr ⟨?_, rfl⟩
      · simp [noRef]
        have : ∀ l : List Int, noRefs h.length (l.map D.int) = true := by
          intro l
          induction l with
          | nil => rfl
          | cons i l ih => simp [noRefs, noRef, ih]
        exact this _
      · rw [free_same]
  obtain ⟨d, h', e, rfl, rfl⟩ := this.get
  exact e
theorem c_same_int {k : Nat} (i : Int) : callI T (k + 1) 17 [.int i, .int i] = M.pure (.bl true) := by
  refine tell (n := 3) (np := 2) (b := b_law_same) (dr := false) (by rw [O.fns]; rfl) rfl fun h => ?_
  simp [b_law_same, startD]
theorem c_same {k : Nat} {l : List Int} (hl : l.length ≤ 1000) : callI T (k + 2) 17 [.lst (l.map .int), .lst (l.map .int)] = M.pure (.bl true) := by
  refine tell (n := 3) (np := 2) (b := b_law_same) (dr := false) (by rw [O.fns]; rfl) rfl fun h => ?_
  simp [b_law_same, startD]
  constructor
  · intro _
    rw [rngD_nat]
    refine wp_comp2 (xs := List.range l.length) (fun _ => .bl true) ?_ (by simp only [List.length_range, lim]; omega) ?_
    · intro i hi
      rw [List.mem_range] at hi
      have e : idxD (.lst (l.map .int)) (.int (i : Nat)) = PX.ret (.int l[i]) := by
        rw [idx_lst_nat (by simpa using hi)]
        simp
      simp [e, c_same_int O]
    · rw [all_map (p := fun _ => true)]
      simp
  · omega
theorem c_says {k : Nat} (a b : Bool) : callI T (k + 1) 18 [.bl a, .bl b] = M.pure (.bl (decide (a = b))) := by
  refine tell (n := 2) (np := 2) (b := b_law_says) (dr := false) (by rw [O.fns]; rfl) rfl fun h => ?_
  simp [b_law_says, startD]
mutual
theorem c_lvars : ∀ (t : Tm) (k : Nat), t.deep ≤ k → t.size ≤ 1000 → callI T k 23 [t.d] = M.pure (.lst (t.vars.map .int))
  | .var n, k, hk, hs => by
    simp only [Tm.deep] at hk
    obtain ⟨k, rfl⟩ : ∃ j, k = j + 1 := ⟨k - 1, by omega⟩
    refine tell (n := 3) (np := 1) (b := b_law_variables) (dr := true) (by rw [O.fns]; rfl) rfl fun h => ?_
    simp [b_law_variables, startD, Tm.d, Tm.vars]
    exact (fin_drop0 rfl).mpr ⟨rfl, rfl⟩
  | .int n, k, hk, hs | .atom n, k, hk, hs => by
    simp only [Tm.deep] at hk
    obtain ⟨k, rfl⟩ : ∃ j, k = j + 1 := ⟨k - 1, by omega⟩
    refine tell (n := 3) (np := 1) (b := b_law_variables) (dr := true) (by rw [O.fns]; rfl) rfl fun h => ?_
    simp [b_law_variables, startD, Tm.d, Tm.vars]
    rw [wp_fz_ref (get_last _ _)]
    simp
    exact (fin_drop rfl).mpr ⟨rfl, rfl⟩
  | .tup s ps, k, hk, hs => by
    simp only [Tm.deep, Tm.size] at hk hs
    obtain ⟨k, rfl⟩ : ∃ j, k = j + 1 := ⟨k - 1, by omega⟩
    refine tell (n := 3) (np := 1) (b := b_law_variables) (dr := true) (by rw [O.fns]; rfl) rfl fun h => ?_
    simp [b_law_variables, startD, Tm.d, Tm.vars, ds_map]
    refine (wp_loop_rel Tm.d (Q := fun o h' => ∃ x, o = .nx [some (.tup [.str "tuple", .str s, .tup (ps.map Tm.d)]), some (.ref h.length), x] ∧ h' = h ++ [.lst ((Tm.varss ps).map .int)]) (fun pre σ h' => ∃ x, σ = [some (.tup [.str "tuple", .str s, .tup (ps.map Tm.d)]), some (.ref h.length), x] ∧ h' = h ++ [.lst ((Tm.varss pre).map .int)]) ⟨none, rfl, rfl⟩ ?_ ?_).mono ?_
    · rintro pre t post _ _ e ⟨x, rfl, rfl⟩
      have ht : t ∈ ps := by rw [e]; simp
      have h1 : Tm.varss (pre ++ [t]) = Tm.varss pre ++ t.vars := by simp [varss_flat]
      have h2 : (Tm.varss ps).length ≤ 1000 := by
        have := Tm.varss_len ps
        omega
      have h3 : (Tm.varss pre).length + t.vars.length ≤ 1000 := by
        rw [e, varss_flat] at h2
        simp [← varss_flat] at h2
        omega
      simp [c_lvarss ps k (by omega) (by omega) t ht, wp_ty_ref (get_last h _)]
      rw [wp_extend_ref (get_last h _) (by simp [lim]; omega)]
      simp [h1]
    · rintro _ _ ⟨x, rfl, rfl⟩
      exact ⟨x, rfl, rfl⟩
    · rintro _ _ ⟨x, rfl, rfl⟩
      simp
      rw [wp_fz_ref (get_last _ _)]
      simp
      refine (fin_drop ?_).mpr ⟨rfl, rfl⟩
      exact noRefs_ints _ _
theorem c_lvarss : ∀ (ts : List Tm) (k : Nat), Tm.deeps ts ≤ k → Tm.sizes ts ≤ 1000 → ∀ t ∈ ts, callI T k 23 [t.d] = M.pure (.lst (t.vars.map .int))
  | [], _, _, _, t, ht => by cases ht
  | u :: ts, k, hk, hs, t, ht => by
    simp only [Tm.deeps, Tm.sizes] at hk hs
    rcases List.mem_cons.mp ht with e | ht
    · rw [e]
      exact c_lvars u k (by omega) (by omega)
    · exact c_lvarss ts k (by omega) (by omega) t ht
end
/-- the last row of _law_free -/
theorem free_end {k r : Nat} {l : List Int} {H : Hs} {v w p kk nn : Option D} (e : H[r]? = some (.lst (l.map .int))) (hl : l.length ≤ 1000) :
    Wp (exs (par T k) (.cons (.ret (.yes (.fz (.bi .sorted (.cons (.fz (.lc (.idx (.var 2) (.var 4)) (.mk (.name 4) (.rng1 (.bi .len (.cons (.var 2) .nil))) (.yes (.cmp .nin (.idx (.var 2) (.var 4)) (.fz (.sl (.var 2) .no (.yes (.var 4))))))) [4])) .nil))))) .nil) [v, w, some (.ref r), p, kk, nn]) H (fun o h' => o = .rt (.lst ((norm l).map .int)) ∧ h' = H) := by
  simp [wp_len_ref e]
  constructor
  · intro _
    rw [rngD_nat]
    refine wp_comp_at (xs := List.range l.length) (fun i => .int (l.getD i 0)) (fun i => !(decide (l.getD i 0 ∈ l.take i))) (by simp only [List.length_range, lim]; omega) ?_ ?_
    · intro i hi
      rw [List.mem_range] at hi
      have hg : l.getD i 0 = l[i] := by simp [hi]
      have g : atI (l.map D.int) ((i : Nat) : Int) = some (D.int l[i]) := by
        rw [at_nat (by simpa using hi)]
        simp
      have c : cutD (l.map D.int) none (some ((i : Nat) : Int)) = (l.take i).map D.int := by
        rw [cut_to (by simp; omega), List.map_take]
      simp [wp_idx_ref e g, wp_sl_ref e, c, nin_ints, hg]
      have n1 : cmpM .nin (.int l[i]) (.lst ((l.map D.int).take i)) = PX.ret (.bl !(decide (l[i] ∈ l.take i))) := by
        rw [← List.map_take, nin_ints]
      have hg2 : l[i]?.getD 0 = l[i] := by simp [hi]
      by_cases hm : l[i] ∈ l.take i
      · simp [n1, hm, hg2]
      · simp [n1, hm, hg2, wp_idx_ref e g]
    · rw [show (fun i => D.int (l.getD i 0)) = D.int ∘ (fun i => l.getD i 0) from rfl, ← List.map_map, show ((List.range l.length).filter fun i => !(decide (l.getD i 0 ∈ l.take i))).map (fun i => l.getD i 0) = ddup l from rfl]
      simp [sorted_ints, norm]
  · omega
end

theorem at_first (h : Hs) (a : MO) (r : Hs) : (h ++ a :: r)[h.length]? = some a := by simp
def lf3 : Stm := (.ite (.cmp .eq (.var 1) (.con (.str "same")))
 (.cons (.asg (.name 2) (.bin .add (.call 23 (.cons (.idx (.var 0) (.con (.int (1)))) .nil)) (.call 23 (.cons (.idx (.var 0) (.con (.int (2)))) .nil))))
 .nil)
 (.cons (.ite (.cmp .inn (.var 1) (.tup (.cons (.con (.str "some")) (.cons (.con (.str "all")) .nil))))
  (.cons (.asg (.name 2) (.lc (.var 5) (.mk (.name 5) (.vals (.call 24 (.cons (.idx (.var 0) (.con (.int (2)))) .nil))) (.yes (.cmp .ne (.var 5) (.idx (.var 0) (.con (.int (1))))))) [5]))
  .nil)
  (.cons (.for_ (.name 3) (.vals (.sl (.var 0) (.yes (.con (.int (1)))) .no))
   (.cons (.exp (.bm .extend (.var 2) (.cons (.call 24 (.cons (.var 3) .nil)) .nil)))
   .nil))
  .nil))
 .nil))
def lf4 : Stms := (.cons (.ret (.yes (.fz (.bi .sorted (.cons (.fz (.lc (.idx (.var 2) (.var 4)) (.mk (.name 4) (.rng1 (.bi .len (.cons (.var 2) .nil))) (.yes (.cmp .nin (.idx (.var 2) (.var 4)) (.fz (.sl (.var 2) .no (.yes (.var 4))))))) [4])) .nil))))) .nil)
theorem lf_eq : b_law_free = .cons (.asg (.name 1) (.idx (.var 0) (.con (.int (0))))) (.cons (.asg (.name 2) (.lst .nil)) (.cons lf3 lf4)) := rfl
section
variable {T : Prog} (O : TOk T)
include O
theorem lfree_of {k : Nat} {d : D} {w : Str} {l : List Int} (hw : idxD d (.int 0) = PX.ret (.str w)) (hl : l.length ≤ 1000)
    (mid : ∀ h : Hs, Wp (ex (par T k) lf3 [some d, some (.str w), some (.ref h.length), none, none, none]) (h ++ [.lst []]) (fun o h' => ∃ p kk nn r e, o = .nx [some d, some (.str w), some (.ref r), p, kk, nn] ∧ h' = h ++ e ∧ (h ++ e)[r]? = some (.lst (l.map .int)))) :
    callI T (k + 1) 24 [d] = M.pure (.lst ((norm l).map .int)) := by
  refine tell (n := 6) (np := 1) (b := b_law_free) (dr := true) (by rw [O.fns]; rfl) rfl fun h => ?_
  rw [lf_eq]
  simp [startD, hw, -exs_cons]
  rw [exs_cons, wp_bind]
  simp [hw, -exs_cons]
  rw [exs_cons, wp_bind]
  simp [-exs_cons]
  rw [exs_cons, wp_bind]
  refine (mid h).mono ?_
  rintro _ _ ⟨p, kk, nn, r, e, rfl, rfl, hr⟩
  rw [andThen_nx]
  refine (free_end O hr hl).mono ?_
  rintro _ _ ⟨rfl, rfl⟩
  refine (fin_drop ?_).mpr ⟨rfl, rfl⟩
  exact noRefs_ints _ _
theorem lfree_loop {k : Nat} {w : Str} {fs : List Fm} (h1 : ¬ w = "same") (h2 : ¬ (("some" : Str) = w ∨ ("all" : Str) = w)) (hl : (fs.flatMap Fm.lfree).length ≤ 1000) (hf : ∀ f ∈ fs, callI T k 24 [f.d] = M.pure (.lst (f.lfree.map .int))) :
    callI T (k + 1) 24 [.tup (.str w :: fs.map Fm.d)] = M.pure (.lst ((norm (fs.flatMap Fm.lfree)).map .int)) := by
  refine lfree_of O (w := w) (by simp) hl fun h => ?_
  simp [lf3, h1, h2]
  refine (wp_loop_rel Fm.d (Q := fun o h' => ∃ x, o = .nx [some (.tup (.str w :: fs.map Fm.d)), some (.str w), some (.ref h.length), x, none, none] ∧ h' = h ++ [.lst ((fs.flatMap Fm.lfree).map .int)]) (fun pre σ h' => ∃ x, σ = [some (.tup (.str w :: fs.map Fm.d)), some (.str w), some (.ref h.length), x, none, none] ∧ h' = h ++ [.lst ((pre.flatMap Fm.lfree).map .int)]) ⟨none, rfl, rfl⟩ ?_ ?_).mono ?_
  · rintro pre t post _ _ e ⟨x, rfl, rfl⟩
    have ht : t ∈ fs := by rw [e]; simp
    have h3 : (pre.flatMap Fm.lfree).length + t.lfree.length ≤ 1000 := by
      rw [e] at hl
      simp at hl ⊢
      omega
    simp [hf t ht, wp_ty_ref (get_last h _)]
    rw [wp_extend_ref (get_last h _) (by simp only [List.length_map, lim]; omega)]
    simp
  · rintro _ _ ⟨x, rfl, rfl⟩
    exact ⟨x, rfl, rfl⟩
  · rintro _ _ ⟨x, rfl, rfl⟩
    simp
    exact ⟨_, _, _, _, ⟨rfl, rfl, rfl, rfl⟩, by simp⟩
theorem c_lfree : ∀ (f : Fm) (k : Nat), f.deep ≤ k → f.size ≤ 120 → callI T k 24 [f.d] = M.pure (.lst (f.lfree.map .int))
  | .tt, k, hk, hs | .ff, k, hk, hs => by
    simp only [Fm.deep] at hk
    obtain ⟨k, rfl⟩ : ∃ j, k = j + 1 := ⟨k - 1, by omega⟩
    exact lfree_loop O (fs := []) (by simp) (by simp) (by simp) (by simp)
  | .not f, k, hk, hs => by
    simp only [Fm.deep, Fm.size] at hk hs
    obtain ⟨k, rfl⟩ : ∃ j, k = j + 1 := ⟨k - 1, by omega⟩
    have := f.lfree_len
    have e := lfree_loop O (k := k) (w := "not") (fs := [f]) (by simp) (by simp) (by simp; omega) (by simp; exact c_lfree f k (by omega) (by omega))
    simpa [Fm.lfree, Fm.d] using e
  | .and f g, k, hk, hs => by
    simp only [Fm.deep, Fm.size] at hk hs
    obtain ⟨k, rfl⟩ : ∃ j, k = j + 1 := ⟨k - 1, by omega⟩
    have := f.lfree_len
    have := g.lfree_len
    have e := lfree_loop O (k := k) (w := "and") (fs := [f, g]) (by simp) (by simp) (by simp; omega) (by simp; exact ⟨c_lfree f k (by omega) (by omega), c_lfree g k (by omega) (by omega)⟩)
    simpa [Fm.lfree, Fm.d] using e
  | .or f g, k, hk, hs => by
    simp only [Fm.deep, Fm.size] at hk hs
    obtain ⟨k, rfl⟩ : ∃ j, k = j + 1 := ⟨k - 1, by omega⟩
    have := f.lfree_len
    have := g.lfree_len
    have e := lfree_loop O (k := k) (w := "or") (fs := [f, g]) (by simp) (by simp) (by simp; omega) (by simp; exact ⟨c_lfree f k (by omega) (by omega), c_lfree g k (by omega) (by omega)⟩)
    simpa [Fm.lfree, Fm.d] using e
  | .same a b, k, hk, hs => by
    simp only [Fm.deep, Fm.size] at hk hs
    obtain ⟨k, rfl⟩ : ∃ j, k = j + 1 := ⟨k - 1, by omega⟩
    have := a.vars_len
    have := b.vars_len
    refine lfree_of O (l := a.vars ++ b.vars) (w := "same") (by simp [Fm.d]) (by simp; omega) fun h => ?_
    have ea := c_lvars O a k (by omega) (by omega)
    have eb := c_lvars O b k (by omega) (by omega)
    have el : binD .add (.lst (a.vars.map .int)) (.lst (b.vars.map .int)) = retN ((a.vars ++ b.vars).map .int) := by
      funext h
      have : a.vars.length + b.vars.length ≤ lim := by simp only [lim]; omega
      simp [binD, asList, retN, this]
    simp [lf3, Fm.d, ea, eb, el]
    exact ⟨_, _, _, _, ⟨rfl, rfl, rfl, rfl⟩, by simp⟩
  | .some n f, k, hk, hs => by
    simp only [Fm.deep, Fm.size] at hk hs
    obtain ⟨k, rfl⟩ : ∃ j, k = j + 1 := ⟨k - 1, by omega⟩
    have := f.lfree_len
    have := List.length_filter_le (fun m => m != n) f.lfree
    refine lfree_of O (l := f.lfree.filter fun m => m != n) (w := "some") (by simp [Fm.d]) (by omega) fun h => ?_
    simp [lf3, Fm.d, c_lfree f k (by omega) (by omega)]
    refine wp_comp_filter (fun i => .int i) (fun m => m != n) ?_ (by simp only [lim]; omega) ?_
    · intro x _
      by_cases hx : x = n <;> simp [hx]
    · simp
      exact ⟨_, _, _, _, ⟨rfl, rfl, rfl, rfl⟩, by simp⟩
  | .all n f, k, hk, hs => by
    simp only [Fm.deep, Fm.size] at hk hs
    obtain ⟨k, rfl⟩ : ∃ j, k = j + 1 := ⟨k - 1, by omega⟩
    have := f.lfree_len
    have := List.length_filter_le (fun m => m != n) f.lfree
    refine lfree_of O (l := f.lfree.filter fun m => m != n) (w := "all") (by simp [Fm.d]) (by omega) fun h => ?_
    simp [lf3, Fm.d, c_lfree f k (by omega) (by omega)]
    refine wp_comp_filter (fun i => .int i) (fun m => m != n) ?_ (by simp only [lim]; omega) ?_
    · intro x _
      by_cases hx : x = n <;> simp [hx]
    · simp
      exact ⟨_, _, _, _, ⟨rfl, rfl, rfl, rfl⟩, by simp⟩
end

theorem isAtom_strOk {s : Str} (h : isAtom (.str s) = true) : PySem.PyData.strOk s = true := by
  simp only [isAtom, Bool.and_eq_true, List.all_eq_true] at h
  simp only [PySem.PyData.strOk, Array.all_eq_true, ← Array.all_toList, List.all_eq_true, decide_eq_true_eq]
  intro c hc
  have := h.2 c hc
  simp only [Bool.or_eq_true, isSmall, isDigit, decide_eq_true_eq] at this
  have hs : ∀ c ∈ smalls.cps.toList, c < 1114112 := by decide
  have hd : ∀ c ∈ digits.cps.toList, c < 1114112 := by decide
  rcases this with h | h
  · exact hs c h
  · exact hd c h
mutual
/-- values of a kind: the whole numbers in them, the most items -/
def cl (S : List Int) (L : Nat) : D → Bool
  | .ref _ => false
  | .int i => decide (i ∈ S)
  | .str s => decide (s.length ≤ 20) && PySem.PyData.strOk s
  | .tup xs => decide (xs.length ≤ L) && cls S L xs
  | .lst xs => decide (xs.length ≤ L) && cls S L xs
  | _ => true
def cls (S : List Int) (L : Nat) : List D → Bool
  | [] => true
  | x :: xs => cl S L x && cls S L xs
end
mutual
theorem cl_pl {S : List Int} {L : Nat} (hL : L ≤ 100) : ∀ v : D, cl S L v = true → pl v = true ∧ fair v = true ∧ allI S v = true
  | .non, _ | .bl _, _ => ⟨rfl, rfl, rfl⟩
  | .int i, h => ⟨rfl, rfl, by simpa [cl, allI] using h⟩
  | .ref _, h => by simp [cl] at h
  | .str s, h => by
    simp only [cl, Bool.and_eq_true, decide_eq_true_eq] at h
    refine ⟨?_, ?_, rfl⟩
    · have : s.length ≤ lim := by unfold lim; omega
      simp only [pl, this, decide_true]
    · simp only [fair]
      exact h.2
  | .tup xs, h | .lst xs, h => by
    simp only [cl, Bool.and_eq_true, decide_eq_true_eq] at h
    have := cls_pl hL xs h.2
    refine ⟨?_, ?_, ?_⟩
    · have hl : xs.length ≤ lim := by unfold lim; omega
      simp only [pl, this.1, Bool.and_true, hl, decide_true]
    · simp only [fair, this.2.1]
    · simp only [allI, this.2.2]
theorem cls_pl {S : List Int} {L : Nat} (hL : L ≤ 100) : ∀ vs : List D, cls S L vs = true → pls vs = true ∧ fairs vs = true ∧ allIs S vs = true
  | [], _ => ⟨rfl, rfl, rfl⟩
  | v :: vs, h => by
    simp only [cls, Bool.and_eq_true] at h
    have h1 := cl_pl hL v h.1
    have h2 := cls_pl hL vs h.2
    simp only [pls, fairs, allIs, h1.1, h2.1, h1.2.1, h2.2.1, h1.2.2, h2.2.2, Bool.and_self, and_self]
end
theorem cls_mem {S : List Int} {L : Nat} {xs : List D} : cls S L xs = true ↔ ∀ x ∈ xs, cl S L x = true := by
  induction xs with
  | nil => simp [cls]
  | cons x xs ih => simp [cls, ih]
mutual
theorem Tm.cl_of {S : List Int} : ∀ t : Tm, t.ok = true → allI S t.d = true → cl S 6 t.d = true
  | .var n, h, a | .int n, h, a => by
    simp [Tm.d, cl, cls, allI, allIs] at a ⊢
    exact ⟨⟨by decide, by decide +kernel⟩, a⟩
  | .atom s, h, a => by
    simp only [Tm.ok] at h
    have h1 := isAtom_strOk h
    have h2 : s.length ≤ 12 := by
      simp only [isAtom, Bool.and_eq_true, decide_eq_true_eq] at h
      exact h.1.1.2
    simp [Tm.d, cl, cls, h1]
    exact ⟨⟨by decide, by decide +kernel⟩, by omega⟩
  | .tup s ps, h, a => by
    simp only [Tm.ok, Bool.and_eq_true, decide_eq_true_eq] at h
    have h1 := isAtom_strOk h.1.1
    have h2 : s.length ≤ 12 := by
      have := h.1.1
      simp only [isAtom, Bool.and_eq_true, decide_eq_true_eq] at this
      exact this.1.1.2
    simp [Tm.d, allI, allIs] at a
    have h3 := Tm.cls_of ps h.2 a
    simp [Tm.d, cl, cls, h1, h3, ds_len]
    exact ⟨⟨by decide, by decide +kernel⟩, by omega, h.1.2.2⟩
theorem Tm.cls_of {S : List Int} : ∀ ts : List Tm, Tm.oks ts = true → allIs S (Tm.ds ts) = true → cls S 6 (Tm.ds ts) = true
  | [], _, _ => rfl
  | t :: ts, h, a => by
    simp only [Tm.oks, Bool.and_eq_true] at h
    simp only [Tm.ds, allIs, Bool.and_eq_true] at a
    simp only [Tm.ds, cls, t.cl_of h.1 a.1, Tm.cls_of ts h.2 a.2, Bool.and_self]
end
theorem Fm.cl_of {S : List Int} : ∀ t : Fm, t.ok = true → allI S t.d = true → cl S 6 t.d = true
  | .tt, _, _ | .ff, _, _ => by
    simp [Fm.d, cl, cls]
    decide +kernel
  | .same x y, h, a => by
    simp only [Fm.ok, Bool.and_eq_true] at h
    simp [Fm.d, allI, allIs] at a
    simp [Fm.d, cl, cls, x.cl_of h.1 a.1, y.cl_of h.2 a.2]
    decide +kernel
  | .not x, h, a => by
    simp only [Fm.ok, Bool.and_eq_true] at h
    simp [Fm.d, allI, allIs] at a
    simp [Fm.d, cl, cls, x.cl_of h a]
    decide +kernel
  | .and x y, h, a | .or x y, h, a => by
    simp only [Fm.ok, Bool.and_eq_true] at h
    simp [Fm.d, allI, allIs] at a
    simp [Fm.d, cl, cls, x.cl_of h.1 a.1, y.cl_of h.2 a.2]
    decide +kernel
  | .some n y, h, a | .all n y, h, a => by
    simp only [Fm.ok, Bool.and_eq_true] at h
    simp [Fm.d, allI, allIs] at a
    simp [Fm.d, cl, cls, y.cl_of h.2 a.2, a.1]
    decide +kernel
mutual
theorem Tm.dep : ∀ t : Tm, depD t.d ≤ 2 * t.deep
  | .var _ | .int _ | .atom _ => by simp [Tm.deep, Tm.d, depD, depDs]
  | .tup s ps => by
    have := Tm.deps ps
    simp [Tm.deep, Tm.d, depD, depDs]
    omega
theorem Tm.deps : ∀ ts : List Tm, depDs (Tm.ds ts) ≤ 2 * Tm.deeps ts
  | [] => by simp [Tm.ds, depDs]
  | t :: ts => by
    have := t.dep
    have := Tm.deps ts
    simp [Tm.deeps, Tm.ds, depDs]
    omega
end
theorem oks_app (a b : List Tm) : Tm.oks (a ++ b) = (Tm.oks a && Tm.oks b) := by
  induction a with
  | nil => simp [Tm.oks]
  | cons x a ih => simp [Tm.oks, ih, Bool.and_assoc]
theorem allIs_app (S : List Int) (a b : List D) : allIs S (a ++ b) = (allIs S a && allIs S b) := by
  induction a with
  | nil => simp [allIs]
  | cons x a ih => simp [allIs, ih, Bool.and_assoc]
theorem deeps_app (a b : List Tm) : Tm.deeps (a ++ b) = max (Tm.deeps a) (Tm.deeps b) := by
  induction a with
  | nil => simp [Tm.deeps]
  | cons x a ih =>
    simp only [List.cons_append, Tm.deeps, ih]
    omega
def lt_leaf : Stms := (.cons (.ite (.and (.var 1) (.cmp .gt (.call 15 (.cons (.var 0) (.cons (.con (.int (5))) .nil))) (.con (.int (0)))))
  (.cons (.ret (.yes (.tup (.cons (.con (.str "var")) (.cons (.call 16 (.cons (.var 0) (.cons (.var 1) .nil))) .nil)))))
  .nil)
  .nil)
 (.cons (.ret (.yes (.call 16 (.cons (.var 0) (.cons (.fz (.lst (.cons (.tup (.cons (.con (.str "int")) (.cons (.con (.int (0))) .nil))) (.cons (.tup (.cons (.con (.str "int")) (.cons (.con (.int (1))) .nil))) (.cons (.tup (.cons (.con (.str "int")) (.cons (.neg (.con (.int (5)))) .nil))) (.cons (.tup (.cons (.con (.str "atom")) (.cons (.con (.str "a")) .nil))) (.cons (.tup (.cons (.con (.str "atom")) (.cons (.con (.str "nil")) .nil))) (.cons (.tup (.cons (.con (.str "atom")) (.cons (.con (.str "w0")) .nil))) .nil)))))))) .nil)))))
 .nil))
def lt_rest : Stms := (.cons (.asg (.name 4) (.fz (.lc (.call 19 (.cons (.var 0) (.cons (.var 1) (.cons (.bin .sub (.var 2) (.con (.int (1)))) .nil)))) (.mk (.name 5) (.rng1 (.call 16 (.cons (.var 0) (.cons (.fz (.lst (.cons (.con (.int (1))) (.cons (.con (.int (1))) (.cons (.con (.int (2))) (.cons (.con (.int (2))) (.cons (.con (.int (3))) .nil))))))) .nil)))) .no) [5])))
(.cons (.ret (.yes (.tup (.cons (.con (.str "tuple")) (.cons (.call 16 (.cons (.var 0) (.cons (.fz (.lst (.cons (.con (.str "f")) (.cons (.con (.str "f")) (.cons (.con (.str "f")) (.cons (.con (.str "g")) .nil)))))) .nil))) (.cons (.bi .tuple (.cons (.var 4) .nil)) .nil))))))
.nil))
theorem lt_eq : b_law_term = .cons (.asg (.name 3) (.call 15 (.cons (.var 0) (.cons (.con (.int (8))) .nil)))) (.cons (.ite (.or (.cmp .le (.var 2) (.con (.int (1)))) (.cmp .lt (.var 3) (.con (.int (4))))) lt_leaf .nil) lt_rest) := rfl
section
variable {T : Prog} (O : TOk T)
include O
theorem hD : T.fns[15]? = some ⟨3, 2, s_draw, false⟩ := by rw [O.fns]; rfl
theorem hP : T.fns[16]? = some ⟨2, 2, s_pick 15, false⟩ := by rw [O.fns]; rfl
/-- what a drawn term is -/
def TmG (S : List Int) (n : Nat) (d : D) : Prop := ∃ t : Tm, d = t.d ∧ t.ok = true ∧ allI S t.d = true ∧ t.deep ≤ n
theorem g_leaf {S : List Int} {ns : List Int} {rest : Hs} {k : Nat} {o : MO} {a b c e : Option D} (hS : 0 ∈ S ∧ 1 ∈ S ∧ -5 ∈ S) (hn : ∀ i ∈ ns, i ∈ S ∧ 0 ≤ i ∧ i ≤ 99) (hl : ns.length ≤ 1000) (so : Strm o) :
    Wp (exs (par T (k + 2)) lt_leaf [some (.ref 0), some (.lst (ns.map .int)), a, b, c, e]) (o :: rest) (fun q h' => (∃ d, q = .rt d ∧ TmG S 1 d) ∧ ∃ o', Strm o' ∧ h' = o' :: rest) := by
  have last : ∀ o, Strm o → Wp (callI T (k + 2) 16 [.ref 0, .lst [.tup [.str "int", .int 0], .tup [.str "int", .int 1], .tup [.str "int", .int (-5)], .tup [.str "atom", .str "a"], .tup [.str "atom", .str "nil"], .tup [.str "atom", .str "w0"]]]) (o :: rest) (fun d h' => TmG S 1 d ∧ ∃ o', Strm o' ∧ h' = o' :: rest) := by
    intro o so
    refine (wp_pick (hD O) (hP O) so (by simp) (by simp)).mono ?_
    rintro d _ ⟨hd, o', so', rfl⟩
    refine ⟨?_, o', so', rfl⟩
    simp only [List.mem_cons, List.not_mem_nil, or_false] at hd
    rcases hd with rfl | rfl | rfl | rfl | rfl | rfl
    · exact ⟨.int 0, rfl, by decide, by simp [Tm.d, allI, allIs, hS], by simp [Tm.deep]⟩
    · exact ⟨.int 1, rfl, by decide, by simp [Tm.d, allI, allIs, hS], by simp [Tm.deep]⟩
    · exact ⟨.int (-5), rfl, by decide, by simp [Tm.d, allI, allIs, hS], by simp [Tm.deep]⟩
    · exact ⟨.atom "a", rfl, by decide +kernel, by simp [Tm.d, allI, allIs], by simp [Tm.deep]⟩
    · exact ⟨.atom "nil", rfl, by decide +kernel, by simp [Tm.d, allI, allIs], by simp [Tm.deep]⟩
    · exact ⟨.atom "w0", rfl, by decide +kernel, by simp [Tm.d, allI, allIs], by simp [Tm.deep]⟩
  cases ns with
  | nil =>
    simp [lt_leaf]
    refine (last o so).mono ?_
    rintro d _ ⟨hd, o', so', rfl⟩
    exact ⟨hd, o', so', rfl⟩
  | cons x ns =>
    simp [lt_leaf]
    refine (wp_draw (hD O) so (by omega) (by omega)).mono ?_
    rintro _ _ ⟨i, o, rfl, h0, h1, so, rfl⟩
    simp
    constructor
    · intro hi
      refine (wp_pick (xs := (x :: ns).map .int) (hD O) (hP O) so (by simp) (by simp at hl ⊢; omega)).mono ?_
      rintro d _ ⟨hd, o', so', rfl⟩
      obtain ⟨j, hj, rfl⟩ := List.mem_map.mp hd
      have := hn j hj
      simp
      exact ⟨⟨.var j, rfl, by simp [Tm.ok, this.2], by simp [Tm.d, allI, allIs, this.1], by simp [Tm.deep]⟩, so'⟩
    · intro hi
      refine (last o so).mono ?_
      rintro d _ ⟨hd, o', so', rfl⟩
      exact ⟨hd, o', so', rfl⟩
theorem g_term {S : List Int} {ns : List Int} {rest : Hs} (hS : 0 ∈ S ∧ 1 ∈ S ∧ -5 ∈ S) (hn : ∀ i ∈ ns, i ∈ S ∧ 0 ≤ i ∧ i ≤ 99) (hl : ns.length ≤ 1000) : ∀ (n k : Nat) (deep : Int) (o : MO), deep ≤ n → 1 ≤ n → n + 3 ≤ k → Strm o →
    Wp (callI T k 19 [.ref 0, .lst (ns.map .int), .int deep]) (o :: rest) (fun d h' => TmG S n d ∧ ∃ o', Strm o' ∧ h' = o' :: rest) := by
  intro n
  induction n with
  | zero => intro k deep o _ h; omega
  | succ n ih =>
    intro k deep o hd _ hk so
    obtain ⟨k, rfl⟩ : ∃ j, k = j + 3 := ⟨k - 3, by omega⟩
    refine wp_callP (n := 6) (np := 3) (b := b_law_term) (dr := false) (by rw [O.fns]; rfl) rfl ?_
    simp [lt_eq, startD]
    refine (wp_draw (hD O) so (by omega) (by omega)).mono ?_
    rintro _ _ ⟨i, o, rfl, h0, h1, so, rfl⟩
    have leaf : ∀ {hh : Hs} {a b c e : Option D}, Wp (exs (par T (k + 2)) lt_leaf [some (.ref 0), some (.lst (ns.map .int)), a, b, c, e]) (o :: rest) (fun q h' => Wp (andThen (fun σ2 => exs (par T (k + 2)) lt_rest σ2) q) h' (Fin false hh (fun d h' => TmG S (n + 1) d ∧ ∃ o', Strm o' ∧ h' = o' :: rest) NoE)) := by
      intro hh a b c e
      refine (g_leaf O hS hn hl so).mono ?_
      rintro _ _ ⟨⟨d, rfl, t, rfl, h3, h4, h5⟩, o', so', rfl⟩
      simp
      exact ⟨⟨t, rfl, h3, h4, by omega⟩, so'⟩
    simp (contextual := true) [-Int.not_le, -Int.not_lt, leaf]
    refine ⟨fun h1 h2 => absurd h1 (by omega), fun hd2 _ => ?_⟩
    simp [lt_rest]
    refine (wp_pick (hD O) (hP O) so (by simp) (by simp)).mono ?_
    rintro d _ ⟨hd3, o, so, rfl⟩
    obtain ⟨m, rfl, m1, m2⟩ : ∃ m : Nat, d = .int m ∧ 1 ≤ m ∧ m ≤ 3 := by
      simp only [List.mem_cons, List.not_mem_nil, or_false] at hd3
      rcases hd3 with rfl | rfl | rfl | rfl | rfl
      · exact ⟨1, rfl, by omega, by omega⟩
      · exact ⟨1, rfl, by omega, by omega⟩
      · exact ⟨2, rfl, by omega, by omega⟩
      · exact ⟨2, rfl, by omega, by omega⟩
      · exact ⟨3, rfl, by omega, by omega⟩
    have m3 : m < 2305843009213693952 := by omega
    simp [m3, rngD_nat]
    refine wp_comp_rel (fun i : Nat => D.int i) (xs := List.range m) (fun pre acc h => (∃ ts : List Tm, acc = ts.map Tm.d ∧ ts.length = pre.length ∧ Tm.oks ts = true ∧ allIs S (Tm.ds ts) = true ∧ Tm.deeps ts ≤ n) ∧ ∃ o', Strm o' ∧ h = o' :: rest) ⟨⟨[], rfl, rfl, rfl, rfl, by simp [Tm.deeps]⟩, o, so, rfl⟩ (by simp only [List.length_range, lim]; omega) ?_ ?_
    · rintro pre x post acc _ e ⟨⟨ts, rfl, h1, h2, h3, h4⟩, o', so, rfl⟩
      simp
      refine (ih (k + 2) (deep - 1) o' (by omega) (by omega) (by omega) so).mono ?_
      rintro _ _ ⟨⟨t, rfl, t1, t2, t3⟩, o2, so2, rfl⟩
      simp
      refine ⟨⟨ts ++ [t], by simp, by simp [h1], ?_, ?_, ?_⟩, so2⟩
      · simp [oks_app, h2, Tm.oks, t1]
      · rw [ds_map] at h3 ⊢
        simp [allIs_app, h3, allIs, t2]
      · rw [deeps_app]
        simp only [Tm.deeps]
        omega
    · rintro acc _ ⟨⟨ts, rfl, h1, h2, h3, h4⟩, o', so, rfl⟩
      refine (wp_pick (hD O) (hP O) so (by simp) (by simp)).mono ?_
      rintro d _ ⟨hd4, o, so, rfl⟩
      simp at h1
      simp
      refine ⟨?_, so⟩
      have : d = .str "f" ∨ d = .str "g" := by simpa using hd4
      rcases this with rfl | rfl
      · exact ⟨.tup "f" ts, by simp [Tm.d, ds_map], by simp [Tm.ok, h2, h1, m1]; exact ⟨by decide +kernel, by omega⟩, by simp [Tm.d, allI, allIs, h3], by simp [Tm.deep, h4]⟩
      · exact ⟨.tup "g" ts, by simp [Tm.d, ds_map], by simp [Tm.ok, h2, h1, m1]; exact ⟨by decide +kernel, by omega⟩, by simp [Tm.d, allI, allIs, h3], by simp [Tm.deep, h4]⟩
end

theorem Fm.dep : ∀ t : Fm, depD t.d ≤ 2 * t.deep
  | .tt | .ff => by simp [Fm.deep, Fm.d, depD, depDs]
  | .same a b => by
    have := a.dep
    have := b.dep
    simp [Fm.deep, Fm.d, depD, depDs]
    omega
  | .and a b | .or a b => by
    have := a.dep
    have := b.dep
    simp [Fm.deep, Fm.d, depD, depDs]
    omega
  | .not a | .some _ a | .all _ a => by
    have := a.dep
    simp [Fm.deep, Fm.d, depD, depDs]
    omega
/-- what a drawn formula is -/
def FmG (S : List Int) (n : Nat) (d : D) : Prop := ∃ t : Fm, d = t.d ∧ t.ok = true ∧ allI S t.d = true ∧ t.deep ≤ n + 3
theorem FmG.not {S : List Int} {n : Nat} {d : D} (h : FmG S n d) : FmG S (n + 1) (.tup [.str "not", d]) := by
  obtain ⟨t, rfl, h1, h2, h3⟩ := h
  exact ⟨.not t, rfl, by simp [Fm.ok, h1], by simp [Fm.d, allI, allIs, h2], by simp only [Fm.deep]; omega⟩
theorem FmG.two {S : List Int} {n : Nat} {d e w : D} (h : FmG S n d) (h' : FmG S n e) (hw : w ∈ [D.str "and", D.str "or"]) : FmG S (n + 1) (.tup [w, d, e]) := by
  obtain ⟨t, rfl, h1, h2, h3⟩ := h
  obtain ⟨u, rfl, k1, k2, k3⟩ := h'
  have : w = .str "and" ∨ w = .str "or" := by simpa using hw
  rcases this with rfl | rfl
  · exact ⟨.and t u, rfl, by simp [Fm.ok, h1, k1], by simp [Fm.d, allI, allIs, h2, k2], by simp only [Fm.deep]; omega⟩
  · exact ⟨.or t u, rfl, by simp [Fm.ok, h1, k1], by simp [Fm.d, allI, allIs, h2, k2], by simp only [Fm.deep]; omega⟩
theorem FmG.quant {S : List Int} {n : Nat} {d w : D} {i : Int} (h : FmG S n d) (hi : i ∈ S) (h0 : 0 ≤ i) (h9 : i ≤ 99) (hw : w ∈ [D.str "some", D.str "all"]) : FmG S (n + 1) (.tup [w, .int i, d]) := by
  obtain ⟨t, rfl, h1, h2, h3⟩ := h
  have : w = .str "some" ∨ w = .str "all" := by simpa using hw
  rcases this with rfl | rfl
  · exact ⟨.some i t, rfl, by simp [Fm.ok, h1, h0, h9], by simp [Fm.d, allI, allIs, h2, hi], by simp only [Fm.deep]; omega⟩
  · exact ⟨.all i t, rfl, by simp [Fm.ok, h1, h0, h9], by simp [Fm.d, allI, allIs, h2, hi], by simp only [Fm.deep]; omega⟩
theorem FmG.mono {S : List Int} {n m : Nat} {d : D} (h : FmG S n d) (hm : n ≤ m) : FmG S m d := by
  obtain ⟨t, rfl, h1, h2, h3⟩ := h
  exact ⟨t, rfl, h1, h2, by omega⟩
def lp_leaf : Stms := (.cons (.ite (.cmp .eq (.call 15 (.cons (.var 0) (.cons (.con (.int (14))) .nil))) (.con (.int (0))))
  (.cons (.ret (.yes (.tup (.cons (.call 16 (.cons (.var 0) (.cons (.fz (.lst (.cons (.con (.str "true")) (.cons (.con (.str "false")) .nil)))) .nil))) .nil))))
  .nil)
  .nil)
 (.cons (.ret (.yes (.tup (.cons (.con (.str "same")) (.cons (.call 19 (.cons (.var 0) (.cons (.var 1) (.cons (.con (.int (3))) .nil)))) (.cons (.call 19 (.cons (.var 0) (.cons (.var 1) (.cons (.con (.int (3))) .nil)))) .nil))))))
 .nil))
def lp_rest : Stms := (.cons (.ite (.cmp .lt (.var 3) (.con (.int (6))))
 (.cons (.ret (.yes (.tup (.cons (.con (.str "not")) (.cons (.call 20 (.cons (.var 0) (.cons (.var 1) (.cons (.bin .sub (.var 2) (.con (.int (1)))) .nil)))) .nil)))))
 .nil)
 .nil)
(.cons (.ret (.yes (.tup (.cons (.call 16 (.cons (.var 0) (.cons (.fz (.lst (.cons (.con (.str "and")) (.cons (.con (.str "or")) .nil)))) .nil))) (.cons (.call 20 (.cons (.var 0) (.cons (.var 1) (.cons (.bin .sub (.var 2) (.con (.int (1)))) .nil)))) (.cons (.call 20 (.cons (.var 0) (.cons (.var 1) (.cons (.bin .sub (.var 2) (.con (.int (1)))) .nil)))) .nil))))))
.nil))
theorem lp_eq : b_law_plain = .cons (.asg (.name 3) (.call 15 (.cons (.var 0) (.cons (.con (.int (9))) .nil)))) (.cons (.ite (.or (.cmp .le (.var 2) (.con (.int (1)))) (.cmp .lt (.var 3) (.con (.int (4))))) lp_leaf .nil) lp_rest) := rfl
section
variable {T : Prog} (O : TOk T)
include O
theorem g_pleaf {S : List Int} {ns : List Int} {rest : Hs} {k : Nat} {o : MO} {a b : Option D} (hS : 0 ∈ S ∧ 1 ∈ S ∧ -5 ∈ S) (hn : ∀ i ∈ ns, i ∈ S ∧ 0 ≤ i ∧ i ≤ 99) (hl : ns.length ≤ 1000) (so : Strm o) :
    Wp (exs (par T (k + 6)) lp_leaf [some (.ref 0), some (.lst (ns.map .int)), a, b]) (o :: rest) (fun q h' => (∃ d, q = .rt d ∧ FmG S 1 d) ∧ ∃ o', Strm o' ∧ h' = o' :: rest) := by
  simp [lp_leaf]
  refine (wp_draw (hD O) so (by omega) (by omega)).mono ?_
  rintro _ _ ⟨i, o, rfl, h0, h1, so, rfl⟩
  simp
  constructor
  · intro _
    refine (wp_pick (hD O) (hP O) so (by simp) (by simp)).mono ?_
    rintro d _ ⟨hd, o, so, rfl⟩
    try simp
    refine ⟨?_, so⟩
    have : d = .str "true" ∨ d = .str "false" := by simpa using hd
    rcases this with rfl | rfl
    · exact ⟨.tt, rfl, rfl, by simp [Fm.d, allI, allIs], by simp [Fm.deep]⟩
    · exact ⟨.ff, rfl, rfl, by simp [Fm.d, allI, allIs], by simp [Fm.deep]⟩
  · intro _
    refine (g_term O hS hn hl 3 (k + 6) 3 o (by omega) (by omega) (by omega) so).mono ?_
    rintro _ _ ⟨⟨t, rfl, t1, t2, t3⟩, o, so, rfl⟩
    try simp
    refine (g_term O hS hn hl 3 (k + 6) 3 o (by omega) (by omega) (by omega) so).mono ?_
    rintro _ _ ⟨⟨u, rfl, u1, u2, u3⟩, o, so, rfl⟩
    try simp
    exact ⟨⟨.same t u, rfl, by simp [Fm.ok, t1, u1], by simp [Fm.d, allI, allIs, t2, u2], by simp only [Fm.deep]; omega⟩, so⟩
theorem g_plain {S : List Int} {ns : List Int} {rest : Hs} (hS : 0 ∈ S ∧ 1 ∈ S ∧ -5 ∈ S) (hn : ∀ i ∈ ns, i ∈ S ∧ 0 ≤ i ∧ i ≤ 99) (hl : ns.length ≤ 1000) : ∀ (n k : Nat) (deep : Int) (o : MO), deep ≤ n → 1 ≤ n → n + 7 ≤ k → Strm o →
    Wp (callI T k 20 [.ref 0, .lst (ns.map .int), .int deep]) (o :: rest) (fun d h' => FmG S n d ∧ ∃ o', Strm o' ∧ h' = o' :: rest) := by
  intro n
  induction n with
  | zero => intro k deep o _ h; omega
  | succ n ih =>
    intro k deep o hd _ hk so
    obtain ⟨k, rfl⟩ : ∃ j, k = j + 7 := ⟨k - 7, by omega⟩
    refine wp_callP (n := 4) (np := 3) (b := b_law_plain) (dr := false) (by rw [O.fns]; rfl) rfl ?_
    simp [lp_eq, startD]
    refine (wp_draw (hD O) so (by omega) (by omega)).mono ?_
    rintro _ _ ⟨i, o, rfl, h0, h1, so, rfl⟩
    have leaf : ∀ {hh : Hs} {a b : Option D}, Wp (exs (par T (k + 6)) lp_leaf [some (.ref 0), some (.lst (ns.map .int)), a, b]) (o :: rest) (fun q h' => Wp (andThen (fun σ2 => exs (par T (k + 6)) lp_rest σ2) q) h' (Fin false hh (fun d h' => FmG S (n + 1) d ∧ ∃ o', Strm o' ∧ h' = o' :: rest) NoE)) := by
      intro hh a b
      refine (g_pleaf O hS hn hl so).mono ?_
      rintro _ _ ⟨⟨d, rfl, hd⟩, o', so', rfl⟩
      try simp
      exact ⟨hd.mono (by omega), so'⟩
    simp (contextual := true) [-Int.not_le, -Int.not_lt, leaf]
    refine ⟨fun h1 h2 => absurd h1 (by omega), fun hd2 _ => ?_⟩
    simp [lp_rest]
    constructor
    · intro _
      refine (ih (k + 6) (deep - 1) o (by omega) (by omega) (by omega) so).mono ?_
      rintro d _ ⟨hd, o, so, rfl⟩
      try simp
      exact ⟨hd.not, so⟩
    · intro _
      refine (wp_pick (hD O) (hP O) so (by simp) (by simp)).mono ?_
      rintro w _ ⟨hw, o, so, rfl⟩
      try simp
      refine (ih (k + 6) (deep - 1) o (by omega) (by omega) (by omega) so).mono ?_
      rintro d _ ⟨hd, o, so, rfl⟩
      try simp
      refine (ih (k + 6) (deep - 1) o (by omega) (by omega) (by omega) so).mono ?_
      rintro e _ ⟨he, o, so, rfl⟩
      try simp
      exact ⟨hd.two he hw, so⟩
theorem g_any {S : List Int} {rest : Hs} (hS : 0 ∈ S ∧ 1 ∈ S ∧ -5 ∈ S) (hS2 : 2 ∈ S ∧ 7 ∈ S ∧ 99 ∈ S) : ∀ (n k : Nat) (deep : Int) (o : MO) (ns : List Int), (∀ i ∈ ns, i ∈ S ∧ 0 ≤ i ∧ i ≤ 99) → ns.length + n ≤ 1000 → deep ≤ n → 1 ≤ n → n + 8 ≤ k → Strm o →
    Wp (callI T k 21 [.ref 0, .lst (ns.map .int), .int deep]) (o :: rest) (fun d h' => FmG S n d ∧ ∃ o', Strm o' ∧ h' = o' :: rest) := by
  intro n
  induction n with
  | zero => intro k deep o ns _ _ _ h; omega
  | succ n ih =>
    intro k deep o ns hn hl hd _ hk so
    obtain ⟨k, rfl⟩ : ∃ j, k = j + 8 := ⟨k - 8, by omega⟩
    refine wp_callP (n := 5) (np := 3) (b := b_law_any) (dr := false) (by rw [O.fns]; rfl) rfl ?_
    simp [b_law_any, startD]
    refine (wp_draw (hD O) so (by omega) (by omega)).mono ?_
    rintro _ _ ⟨i, o, rfl, h0, h1, so, rfl⟩
    have leaf : ∀ {Q : D → Hs → Prop} {E}, (∀ d o, FmG S (n + 1) d → Strm o → Q d (o :: rest)) → Wp (callI T (k + 7) 20 [.ref 0, .lst (ns.map .int), .int 1]) (o :: rest) Q E := by
      intro Q E q
      refine Wp.mono (g_plain O hS hn (by omega) 1 (k + 7) 1 o (by omega) (by omega) (by omega) so) ?_
      rintro d _ ⟨hd, o', so', rfl⟩
      exact q d o' (hd.mono (by omega)) so'
    by_cases c1 : deep ≤ 1
    · have c1' : ¬ 1 < deep := by omega
      simp [c1, c1']
      refine leaf fun d o hd so => ?_
      try simp
      exact ⟨hd, so⟩
    · by_cases c2 : i < 3
      · have c1' : 1 < deep := by omega
        have c2' : ¬ 3 ≤ i := by omega
        simp [c1, c1', c2, c2']
        refine leaf fun d o hd so => ?_
        try simp
        exact ⟨hd, so⟩
      · by_cases c3 : i < 5
        · have c1' : 1 < deep := by omega
          have c2' : 3 ≤ i := by omega
          have c3' : ¬ 5 ≤ i := by omega
          simp [c1, c1', c2, c2', c3, c3']
          refine (ih (k + 7) (deep - 1) o ns hn (by omega) (by omega) (by omega) (by omega) so).mono ?_
          rintro d _ ⟨hd, o, so, rfl⟩
          try simp
          exact ⟨hd.not, so⟩
        · by_cases c4 : i < 8
          · have c1' : 1 < deep := by omega
            have c2' : 3 ≤ i := by omega
            have c3' : 5 ≤ i := by omega
            have c4' : ¬ 8 ≤ i := by omega
            simp [c1, c1', c2, c2', c3, c3', c4, c4']
            refine (wp_pick (hD O) (hP O) so (by simp) (by simp)).mono ?_
            rintro w _ ⟨hw, o, so, rfl⟩
            try simp
            refine (ih (k + 7) (deep - 1) o ns hn (by omega) (by omega) (by omega) (by omega) so).mono ?_
            rintro d _ ⟨hd, o, so, rfl⟩
            try simp
            refine (ih (k + 7) (deep - 1) o ns hn (by omega) (by omega) (by omega) (by omega) so).mono ?_
            rintro e _ ⟨he, o, so, rfl⟩
            try simp
            exact ⟨hd.two he hw, so⟩
          · have c1' : 1 < deep := by omega
            have c2' : 3 ≤ i := by omega
            have c3' : 5 ≤ i := by omega
            have c4' : 8 ≤ i := by omega
            simp [c1, c1', c2, c2', c3, c3', c4, c4']
            refine (wp_pick (hD O) (hP O) so (by simp) (by simp)).mono ?_
            rintro d _ ⟨hd, o, so, rfl⟩
            obtain ⟨m, rfl, m1, m2, m3⟩ : ∃ m : Int, d = .int m ∧ m ∈ S ∧ 0 ≤ m ∧ m ≤ 99 := by
              simp only [List.mem_cons, List.not_mem_nil, or_false] at hd
              rcases hd with rfl | rfl | rfl | rfl | rfl
              · exact ⟨0, rfl, hS.1, by omega, by omega⟩
              · exact ⟨1, rfl, hS.2.1, by omega, by omega⟩
              · exact ⟨2, rfl, hS2.1, by omega, by omega⟩
              · exact ⟨7, rfl, hS2.2.1, by omega, by omega⟩
              · exact ⟨99, rfl, hS2.2.2, by omega, by omega⟩
            try simp
            refine (wp_pick (hD O) (hP O) so (by simp) (by simp)).mono ?_
            rintro w _ ⟨hw, o, so, rfl⟩
            have el : binD .add (.lst (ns.map .int)) (.lst [.int m]) = retN ((ns ++ [m]).map .int) := by
              funext h
              have : ns.length + 1 ≤ lim := by simp only [lim]; omega
              simp [binD, asList, retN, this]
            simp [el, -List.map_append]
            refine (ih (k + 7) (deep - 1) o (ns ++ [m]) ?_ (by simp; omega) (by omega) (by omega) (by omega) so).mono ?_
            · intro i hi
              rcases List.mem_append.mp hi with hi | hi
              · exact hn i hi
              · rw [List.mem_singleton] at hi
                subst hi
                exact ⟨m1, m2, m3⟩
            · rintro d _ ⟨hd, o, so, rfl⟩
              try simp
              exact ⟨hd.quant m1 m2 m3 hw, so⟩
end

/-- the whole numbers that are drawn -/
def SS : List Int := [0, 1, -5, 2, 7, 99, 3, 100, -1, 1000000000, 1000000001]
theorem addl (xs ys : List D) (h : xs.length + ys.length ≤ 1000) : binD .add (.lst xs) (.lst ys) = retN (xs ++ ys) := by
  funext z
  have : xs.length + ys.length ≤ lim := by simp only [lim]; omega
  simp [binD, asList, retN, this]
theorem addt (xs ys : List D) (h : xs.length + ys.length ≤ 1000) : binD .add (.tup xs) (.tup ys) = PX.ret (.tup (xs ++ ys)) := by
  funext z
  have : xs.length + ys.length ≤ lim := by simp only [lim]; omega
  simp [binD, PX.ret, this]
theorem depDs_le {xs : List D} {n : Nat} : depDs xs ≤ n ↔ ∀ x ∈ xs, depD x ≤ n := by
  induction xs with
  | nil => simp [depDs]
  | cons x xs ih => simp [depDs, Nat.max_le, ih]
theorem sl_to {xs : List D} {n : Nat} (hn : n ≤ xs.length) : slD (.tup xs) none (some (n : Int)) = PX.ret (.tup (xs.take n)) := by
  funext h
  simp only [slD, cut_to hn]
theorem sl_from {xs : List D} {n : Nat} (hn : n ≤ xs.length) : slD (.tup xs) (some (n : Int)) none = PX.ret (.tup (xs.drop n)) := by
  funext h
  simp only [slD, cut_from hn]
mutual
theorem cl_up {S : List Int} {L M : Nat} (hL : L ≤ M) : ∀ v : D, cl S L v = true → cl S M v = true
  | .non, _ | .bl _, _ => rfl
  | .int i, h => by simpa [cl] using h
  | .ref _, h => by simp [cl] at h
  | .str s, h => by simpa [cl] using h
  | .tup xs, h | .lst xs, h => by
    simp only [cl, Bool.and_eq_true, decide_eq_true_eq] at h ⊢
    exact ⟨by omega, cls_up hL xs h.2⟩
theorem cls_up {S : List Int} {L M : Nat} (hL : L ≤ M) : ∀ vs : List D, cls S L vs = true → cls S M vs = true
  | [], _ => rfl
  | v :: vs, h => by
    simp only [cls, Bool.and_eq_true] at h ⊢
    exact ⟨cl_up hL v h.1, cls_up hL vs h.2⟩
end
def lc_mid : Stm := (.ite (.and (.isi (.var 3) [.tuple]) (.and (.cmp .ne (.var 3) (.tup .nil)) (.cmp .gt (.call 15 (.cons (.var 0) (.cons (.con (.int (4))) .nil))) (.con (.int (0))))))
 (.cons (.asg (.name 3) (.call 31 (.cons (.var 0) (.cons (.var 3) .nil))))
 .nil)
 (.cons (.asg (.name 3) (.call 30 (.cons (.var 0) .nil)))
 .nil))
def lc_end : Stms := (.cons (.ret (.yes (.bin .add (.bin .add (.sl (.var 1) .no (.yes (.var 2))) (.tup (.cons (.var 3) .nil))) (.sl (.var 1) (.yes (.bin .add (.var 2) (.con (.int (1))))) .no)))) .nil)
def lc_fst : Stm := (.ite (.cmp .eq (.var 2) (.bi .len (.cons (.var 1) .nil)))
 (.cons (.ret (.yes (.call 16 (.cons (.var 0) (.cons (.fz (.lst (.cons (.bin .add (.var 1) (.tup (.cons (.call 30 (.cons (.var 0) .nil)) .nil))) (.cons (.sl (.var 1) .no (.yes (.bin .sub (.bi .len (.cons (.var 1) .nil)) (.con (.int (1)))))) (.cons (.fz (.bi .list (.cons (.var 1) .nil))) .nil))))) .nil)))))
 .nil)
 .nil)
theorem lc_eq : b_law_changed = .cons (.asg (.name 2) (.call 15 (.cons (.var 0) (.cons (.bin .add (.bi .len (.cons (.var 1) .nil)) (.con (.int (1)))) .nil)))) (.cons lc_fst (.cons (.asg (.name 3) (.idx (.var 1) (.var 2))) (.cons lc_mid lc_end))) := rfl
section
variable {T : Prog} (O : TOk T)
include O
theorem g_odd {rest : Hs} {k : Nat} {o : MO} (so : Strm o) : Wp (callI T (k + 3) 30 [.ref 0]) (o :: rest) (fun d h' => (cl SS 6 d = true ∧ depD d ≤ 2) ∧ ∃ o', Strm o' ∧ h' = o' :: rest) := by
  refine wp_callP (n := 2) (np := 1) (b := b_law_odd) (dr := false) (by rw [O.fns]; rfl) rfl ?_
  simp [b_law_odd, startD, pow9, addl]
  refine (wp_pick (hD O) (hP O) so (by simp) (by simp)).mono ?_
  rintro d _ ⟨hd, o, so, rfl⟩
  try simp
  refine ⟨?_, so⟩
  have key : ∀ d ∈ [D.non, D.bl true, D.int 0, D.int 99, D.int 100, D.int (-1), D.int 1000000000, D.int 1000000001, D.str "a", D.str "A", D.str "", D.str "abcdefghijklm", D.str "a1", D.tup [], D.tup [D.str "true"], D.tup [D.str "var", D.int 1], D.tup [D.str "var", D.bl true], D.tup [D.str "int", D.int 1000000001], D.lst [], D.tup [D.str "name", D.str "a", D.int 1], D.tup [D.str "tuple", D.str "f", D.tup []]], cl SS 6 d = true ∧ depD d ≤ 2 := by decide +kernel
  exact key d hd
theorem g_changed {rest : Hs} : ∀ (n k : Nat) (xs : List D) (o : MO), xs ≠ [] → cl SS 6 (.tup xs) = true → depD (.tup xs) ≤ n → n ≤ 60 → n + 4 ≤ k → Strm o →
    Wp (callI T k 31 [.ref 0, .tup xs]) (o :: rest) (fun d h' => (cl SS 7 d = true ∧ depD d ≤ n + 3) ∧ ∃ o', Strm o' ∧ h' = o' :: rest) := by
  intro n
  induction n with
  | zero => intro k xs o _ _ h; simp [depD] at h
  | succ n ih =>
    intro k xs o hx hc hd hn hk so
    obtain ⟨k, rfl⟩ : ∃ j, k = j + 4 := ⟨k - 4, by omega⟩
    have hcs : ∀ x ∈ xs, cl SS 6 x = true := by
      simp only [cl, Bool.and_eq_true] at hc
      exact cls_mem.mp hc.2
    have hlen : xs.length ≤ 6 := by
      simp only [cl, Bool.and_eq_true, decide_eq_true_eq] at hc
      exact hc.1
    have hdp : ∀ x ∈ xs, depD x ≤ n := by
      simp only [depD] at hd
      exact depDs_le.mp (by omega)
    have up : ∀ d, cl SS 6 d = true → cl SS 7 d = true := cl_up (by omega)
    refine wp_callP (n := 4) (np := 2) (b := b_law_changed) (dr := false) (by rw [O.fns]; rfl) rfl ?_
    rw [lc_eq, exs_cons, wp_bind]
    simp [startD, -exs_cons]
    refine (wp_draw (hD O) so (by omega) (by omega)).mono ?_
    rintro _ _ ⟨i, o, rfl, h0, h1, so, rfl⟩
    try simp [-exs_cons]
    rw [exs_cons, wp_bind]
    obtain ⟨at_, rfl⟩ : ∃ m : Nat, i = m := ⟨i.toNat, by omega⟩
    by_cases he : at_ = xs.length
    · subst he
      simp [lc_fst]
      refine (g_odd O so).mono ?_
      rintro d _ ⟨⟨hd1, hd2⟩, o, so, rfl⟩
      have e1 : slD (.tup xs) none (some ((xs.length : Int) - 1)) = PX.ret (.tup (xs.take (xs.length - 1))) := by
        have : 0 < xs.length := List.length_pos_iff.mpr hx
        rw [show (xs.length : Int) - 1 = ((xs.length - 1 : Nat) : Int) by omega, sl_to (by omega)]
      simp [addt xs [d] (by simp; omega), e1]
      refine (wp_pick (hD O) (hP O) so (by simp) (by simp)).mono ?_
      rintro z _ ⟨hz, o, so, rfl⟩
      try simp
      refine ⟨?_, so⟩
      simp only [List.mem_cons, List.not_mem_nil, or_false] at hz
      rcases hz with rfl | rfl | rfl
      · constructor
        · simp only [cl, Bool.and_eq_true, decide_eq_true_eq]
          refine ⟨by simp; omega, cls_mem.mpr ?_⟩
          intro x hx
          rcases List.mem_append.mp hx with hx | hx
          · exact up x (hcs x hx)
          · rw [List.mem_singleton] at hx
            subst hx
            exact up _ hd1
        · simp only [depD, Nat.add_le_add_iff_right]
          have : depDs (xs ++ [d]) ≤ n + 3 := by
            rw [depDs_le]
            intro x hx
            rcases List.mem_append.mp hx with hx | hx
            · have := hdp x hx
              omega
            · rw [List.mem_singleton] at hx
              subst hx
              omega
          omega
      · constructor
        · simp only [cl, Bool.and_eq_true, decide_eq_true_eq]
          refine ⟨by simp; omega, cls_mem.mpr fun x hx => up x (hcs x (List.mem_of_mem_take hx))⟩
        · simp only [depD, Nat.add_le_add_iff_right]
          have : depDs (xs.take (xs.length - 1)) ≤ n + 3 := by
            rw [depDs_le]
            intro x hx
            have := hdp x (List.mem_of_mem_take hx)
            omega
          omega
      · constructor
        · simp only [cl, Bool.and_eq_true, decide_eq_true_eq]
          exact ⟨by omega, cls_mem.mpr fun x hx => up x (hcs x hx)⟩
        · simp only [depD] at hd ⊢
          omega
    · have hlt : at_ < xs.length := by omega
      have he' : ¬ ((at_ : Int) = (xs.length : Int)) := by omega
      have hp := List.getElem_mem hlt
      have done : ∀ (d : D) (o : MO) (hh : Hs), cl SS 7 d = true → depD d ≤ n + 3 → Strm o → Wp (exs (par T (k + 3)) (.cons (.ret (.yes (.bin .add (.bin .add (.sl (.var 1) .no (.yes (.var 2))) (.tup (.cons (.var 3) .nil))) (.sl (.var 1) (.yes (.bin .add (.var 2) (.con (.int (1))))) .no)))) .nil) [some (.ref 0), some (.tup xs), some (.int (at_ : Nat)), some d]) (o :: rest) (Fin false hh (fun d h' => (cl SS 7 d = true ∧ depD d ≤ n + 1 + 3) ∧ ∃ o', Strm o' ∧ h' = o' :: rest) NoE) := by
        intro d o hh c1 c2 so
        have e1 := sl_to (xs := xs) (n := at_) (by omega)
        have e2 : slD (.tup xs) (some ((at_ : Int) + 1)) none = PX.ret (.tup (xs.drop (at_ + 1))) := sl_from (n := at_ + 1) (by omega)
        have a1 := addt (xs.take at_) [d] (by simp; omega)
        have a2 := addt (xs.take at_ ++ [d]) (xs.drop (at_ + 1)) (by simp; omega)
        simp [e1, e2, a1, a2]
        refine ⟨⟨?_, ?_⟩, so⟩
        · simp only [cl, Bool.and_eq_true, decide_eq_true_eq]
          refine ⟨by simp; omega, cls_mem.mpr ?_⟩
          intro x hx
          simp only [List.mem_append, List.mem_cons] at hx
          rcases hx with hx | rfl | hx
          · exact up x (hcs x (List.mem_of_mem_take hx))
          · exact c1
          · exact up x (hcs x (List.mem_of_mem_drop hx))
        · simp only [depD]
          have : depDs (xs.take at_ ++ d :: xs.drop (at_ + 1)) ≤ n + 3 := by
            rw [depDs_le]
            intro x hx
            simp only [List.mem_append, List.mem_cons] at hx
            rcases hx with hx | rfl | hx
            · have := hdp x (List.mem_of_mem_take hx)
              omega
            · exact c2
            · have := hdp x (List.mem_of_mem_drop hx)
              omega
          omega
      have hpc := hcs _ hp
      have hpd := hdp _ hp
      have hix := idx_tup_nat hlt
      generalize xs[at_] = p at hpc hpd hix
      have nrp : nr p = true := by cases p <;> first | rfl | simp [cl] at hpc
      have fp := (cl_pl (by omega) p hpc).2.1
      have mid : Wp (ex (par T (k + 3)) lc_mid [some (.ref 0), some (.tup xs), some (.int (at_ : Nat)), some p]) (o :: rest) (fun q h' => ∃ d, (q = .nx [some (.ref 0), some (.tup xs), some (.int (at_ : Nat)), some d] ∧ cl SS 7 d = true ∧ depD d ≤ n + 3) ∧ ∃ o, Strm o ∧ h' = o :: rest) := by
        have odd : ∀ (o : MO), Strm o → Wp (exs (par T (k + 3)) (.cons (.asg (.name 3) (.call 30 (.cons (.var 0) .nil))) .nil) [some (.ref 0), some (.tup xs), some (.int (at_ : Nat)), some p]) (o :: rest) (fun q h' => ∃ d, (q = .nx [some (.ref 0), some (.tup xs), some (.int (at_ : Nat)), some d] ∧ cl SS 7 d = true ∧ depD d ≤ n + 3) ∧ ∃ o, Strm o ∧ h' = o :: rest) := by
          intro o so
          simp
          refine (g_odd O so).mono ?_
          rintro d _ ⟨⟨h1, h2⟩, o, so, rfl⟩
          try simp
          exact ⟨⟨up d h1, by omega⟩, so⟩
        have odd1 := odd o so
        cases p with
        | tup ys =>
          have hne := cmp_ne_fair fp (b := .tup []) rfl (by omega) (by decide)
          by_cases hy : ys = []
          · subst hy
            simp [lc_mid, isTup, hne, eqD, eqDs] at odd1 ⊢
            exact odd1
          · have : eqDs ys [] = false := by cases ys with
              | nil => exact absurd rfl hy
              | cons _ _ => rfl
            simp [lc_mid, isTup, hne, eqD, this]
            refine (wp_draw (hD O) so (by omega) (by omega)).mono ?_
            rintro _ _ ⟨i, o, rfl, h0, h1, so, rfl⟩
            have odd2 := odd o so
            simp at odd2 ⊢
            constructor
            · intro _
              refine (ih (k + 3) ys o hy hpc hpd (by omega) (by omega) so).mono ?_
              rintro d _ ⟨⟨h1, h2⟩, o, so, rfl⟩
              try simp
              exact ⟨⟨h1, h2⟩, so⟩
            · intro _
              exact odd2
        | ref _ => cases nrp
        | _ =>
          simp [lc_mid, isTup] at odd1 ⊢
          exact odd1
      rw [lc_fst]
      simp [he', hix, -exs_cons]
      rw [exs_cons, wp_bind]
      simp [hix, -exs_cons]
      rw [exs_cons, wp_bind]
      refine mid.mono ?_
      rintro _ _ ⟨d, ⟨rfl, c1, c2⟩, o, so, rfl⟩
      rw [andThen_nx]
      exact done d o _ c1 c2 so
end

theorem strm_nr {o : MO} (so : Strm o) (n : Nat) : noRefO n o = true := by
  obtain ⟨xs, a, b, c, rfl, _⟩ := so
  simp [noRefO, noRefs, noRef]
  exact noRefs_ints _ _
mutual
theorem cl_nr {S : List Int} {L : Nat} (n : Nat) : ∀ v : D, cl S L v = true → noRef n v = true
  | .non, _ | .bl _, _ | .int _, _ | .str _, _ => rfl
  | .ref _, h => by simp [cl] at h
  | .tup xs, h | .lst xs, h => by
    simp only [cl, Bool.and_eq_true] at h
    simp only [noRef]
    exact cls_nr n xs h.2
theorem cls_nr {S : List Int} {L : Nat} (n : Nat) : ∀ vs : List D, cls S L vs = true → noRefs n vs = true
  | [], _ => rfl
  | v :: vs, h => by
    simp only [cls, Bool.and_eq_true] at h
    simp only [noRefs, cl_nr n v h.1, cls_nr n vs h.2, Bool.and_self]
end
/-- a formula that grows -/
def Gr (n : Nat) (d : D) : Prop := cl SS 7 d = true ∧ depD d ≤ n
theorem Gr.up {n m : Nat} {d : D} (h : Gr n d) (hm : n ≤ m) : Gr m d := ⟨h.1, by have := h.2; omega⟩
theorem Gr.or {n : Nat} {a b : D} (h : Gr n a) (h' : Gr n b) : Gr (n + 1) (.tup [.str "or", a, b]) := by
  refine ⟨?_, ?_⟩
  · simp [cl, cls, h.1, h'.1]
    decide +kernel
  · have := h.2
    have := h'.2
    simp [depD, depDs]
    omega
/-- the last part of _law_great -/
def lg_end : Stms := (.cons (.whl (.cmp .gt (.bi .len (.cons (.var 2) .nil)) (.con (.int (1))))
 (.cons (.asg (.name 2) (.bin .add (.fz (.sl (.var 2) (.yes (.con (.int (2)))) .no)) (.fz (.lst (.cons (.tup (.cons (.con (.str "or")) (.cons (.idx (.var 2) (.con (.int (0)))) (.cons (.idx (.var 2) (.con (.int (1)))) .nil)))) .nil)))))
 .nil))
(.cons (.ret (.yes (.idx (.var 2) (.con (.int (0))))))
.nil))
def lg_mid : Stm := (.ite (.cmp .eq (.call 15 (.cons (.var 0) (.cons (.con (.int (2))) .nil))) (.con (.int (0))))
 (.cons (.asg (.sub (.var 2) (.con (.int (0)))) (.tup (.cons (.con (.str "not")) (.cons (.tup (.cons (.con (.str "true")) .nil)) .nil))))
 .nil)
 .nil)
def lg_row : Stm := (.asg (.name 2) (.bin .mul (.fz (.lst (.cons (.tup (.cons (.con (.str "false")) .nil)) .nil))) (.bin .add (.con (.int (58))) (.call 15 (.cons (.var 0) (.cons (.con (.int (5))) .nil))))))
def lg_deep : Stms := (.cons (.for_ (.name 3) (.rng1 (.bin .add (.con (.int (17))) (.call 15 (.cons (.var 0) (.cons (.con (.int (5))) .nil)))))
  (.cons (.asg (.name 1) (.call 16 (.cons (.var 0) (.cons (.fz (.lst (.cons (.tup (.cons (.con (.str "not")) (.cons (.var 1) .nil))) (.cons (.tup (.cons (.con (.str "some")) (.cons (.con (.int (1))) (.cons (.var 1) .nil)))) (.cons (.tup (.cons (.con (.str "and")) (.cons (.var 1) (.cons (.tup (.cons (.con (.str "true")) .nil)) .nil)))) .nil))))) .nil))))
  .nil))
 (.cons (.ret (.yes (.var 1)))
 .nil))
theorem lg_eq : b_law_great = .cons (.asg (.name 1) (.tup (.cons (.con (.str "true")) .nil))) (.cons (.ite (.cmp .eq (.call 15 (.cons (.var 0) (.cons (.con (.int (2))) .nil))) (.con (.int (0)))) lg_deep .nil) (.cons lg_row (.cons lg_mid lg_end))) := rfl
section
variable {T : Prog} (O : TOk T) (W : 1000 ≤ T.wf)
include O
theorem g_deep {k : Nat} {o : MO} {f : D} (hf : Gr 1 f) (so : Strm o) : Wp (exs (par T (k + 2)) lg_deep [some (.ref 0), some f, none, none]) [o] (fun q h' => (∃ d, q = .rt d ∧ Gr 60 d) ∧ ∃ o', Strm o' ∧ h' = [o']) := by
  simp [lg_deep]
  refine (wp_draw (hD O) so (by omega) (by omega)).mono ?_
  rintro _ _ ⟨i, o, rfl, h0, h1, so, rfl⟩
  obtain ⟨m, rfl⟩ : ∃ m : Nat, i = m := ⟨i.toNat, by omega⟩
  have e1 : (17 + (m : Int)) = ((17 + m : Nat) : Int) := by omega
  simp
  refine ⟨fun _ => ?_, by omega⟩
  rw [e1, rngD_nat]
  refine wp_loop_rel (fun i : Nat => D.int i) (xs := List.range (17 + m)) (fun pre σ h => (∃ g c, σ = [some (.ref 0), some g, none, c] ∧ Gr (1 + pre.length) g) ∧ ∃ o', Strm o' ∧ h = [o']) ⟨⟨f, none, rfl, hf⟩, o, so, rfl⟩ ?_ ?_
  · rintro pre x post _ _ e ⟨⟨g, c, rfl, hg⟩, o', so, rfl⟩
    simp
    refine (wp_pick (hD O) (hP O) so (by simp) (by simp)).mono ?_
    rintro d _ ⟨hd, o, so, rfl⟩
    try simp
    refine ⟨?_, so⟩
    have g1 := hg.1
    have g2 := hg.2
    simp only [List.mem_cons, List.not_mem_nil, or_false] at hd
    rcases hd with rfl | rfl | rfl
    · refine ⟨?_, ?_⟩
      · simp [cl, cls, g1]
        decide +kernel
      · simp [depD, depDs]
        omega
    · refine ⟨?_, ?_⟩
      · simp [cl, cls, g1]
        decide +kernel
      · simp [depD, depDs]
        omega
    · refine ⟨?_, ?_⟩
      · simp [cl, cls, g1]
        decide +kernel
      · simp [depD, depDs]
        omega
  · rintro _ _ ⟨⟨g, c, rfl, hg⟩, o', so, rfl⟩
    simp
    exact ⟨hg.up (by simp; omega), so⟩
include W
theorem g_rows {k : Nat} {f : D} {rows : List D} {h : Hs} {r : Nat} (hr : h[r]? = some (.lst rows)) (hl : rows.length ≤ 62) (h1 : 1 ≤ rows.length) (hg : ∀ d ∈ rows, Gr 2 d) : Wp (exs (par T k) lg_end [some (.ref 0), some f, some (.ref r), none]) h (fun q h' => ∃ d e, q = .rt d ∧ Gr 64 d ∧ h' = h ++ e) := by
  simp [lg_end]
  refine wp_whileI (fun n σ h' => ∃ r rows e, σ = [some (.ref 0), some f, some (.ref r), none] ∧ h' = h ++ e ∧ h'[r]? = some (.lst rows) ∧ rows.length = n ∧ 1 ≤ n ∧ n ≤ 62 ∧ ∀ d ∈ rows, Gr (64 - n) d) (n := rows.length) (by omega) ⟨r, rows, [], rfl, by simp, hr, rfl, h1, hl, fun d hd => (hg d hd).up (by omega)⟩ ?_
  rintro n _ _ ⟨r, rows, e, rfl, rfl, hr, rfl, h1, h2, hg⟩
  simp [wp_len_ref hr]
  by_cases hm : 1 < rows.length
  · have hm' : (1 : Int) < (rows.length : Int) := by omega
    simp [hm']
    match rows, hm with
    | a :: b :: rs, _ =>
      have c2 : cutD (a :: b :: rs) (some 2) none = rs := cut_from (xs := a :: b :: rs) (n := 2) (by simp)
      have g0 : atI (a :: b :: rs) 0 = some a := at_nat (xs := a :: b :: rs) (n := 0) (by simp)
      have g1 : atI (a :: b :: rs) 1 = some b := at_nat (xs := a :: b :: rs) (n := 1) (by simp)
      have hl2 : rs.length + 2 ≤ 62 := by simpa using h2
      have ad := addl rs [.tup [.str "or", a, b]] (by simp; omega)
      simp [wp_sl_ref hr, c2, wp_idx_ref hr g0, wp_idx_ref hr g1, ad]
      refine ⟨rs.length + 1, by omega, rfl, by omega, by omega, ?_⟩
      simp only [List.length_cons] at hg
      rintro d (hd | rfl)
      · exact (hg d (by simp [hd])).up (by omega)
      · exact ((hg a (by simp)).or (hg b (by simp))).up (by omega)
  · have hm' : ¬ (1 : Int) < (rows.length : Int) := by omega
    simp [hm']
    match rows, h1 with
    | a :: rs, _ =>
      have g0 : atI (a :: rs) 0 = some a := at_nat (xs := a :: rs) (n := 0) (by simp)
      simp [wp_idx_ref hr g0]
      exact (hg a (by simp)).up (by omega)
theorem g_great {k : Nat} {o : MO} (so : Strm o) : Wp (callI T (k + 3) 32 [.ref 0]) [o] (fun d h' => Gr 64 d ∧ ∃ o', Strm o' ∧ h' = [o']) := by
  refine wp_callP (n := 4) (np := 1) (b := b_law_great) (dr := true) (by rw [O.fns]; rfl) rfl ?_
  have fin : ∀ (d : D) (o' : MO) (e : Hs), Gr 64 d → Strm o' → Fin true [o] (fun d h' => Gr 64 d ∧ ∃ o', Strm o' ∧ h' = [o']) NoE (.rt d) ([o'] ++ e) := by
    intro d o' e g so'
    refine fin_rt_drop1 (h1 := [o']) e rfl ?_ (cl_nr _ _ g.1) ⟨g, o', so', rfl⟩
    intro i hi
    have : i = 0 := by simpa using hi
    subst this
    exact .inr ⟨o', rfl, strm_nr so' _⟩
  rw [lg_eq, exs_cons, wp_bind]
  simp [startD, -exs_cons]
  rw [exs_cons, wp_bind]
  simp [-exs_cons]
  refine (wp_draw (hD O) so (by omega) (by omega)).mono ?_
  rintro _ _ ⟨i, o1, rfl, _, _, so1, rfl⟩
  try simp [-exs_cons]
  constructor
  · intro _
    refine (g_deep O (f := .tup [.str "true"]) ⟨by decide +kernel, by decide⟩ so1).mono ?_
    rintro _ _ ⟨⟨d, rfl, hd⟩, o', so', rfl⟩
    rw [andThen_rt]
    exact fin d o' [] (hd.up (by omega)) so'
  · intro _
    rw [exs_cons, wp_bind]
    simp [lg_row, -exs_cons]
    refine (wp_draw (hD O) so1 (by omega) (by omega)).mono ?_
    rintro _ _ ⟨i, o2, rfl, i0, i1, so2, rfl⟩
    obtain ⟨m, rfl⟩ : ∃ m : Nat, i = m := ⟨i.toNat, by omega⟩
    have mu : binD .mul (.lst [.tup [.str "false"]]) (.int (58 + (m : Int))) = retN (List.replicate (58 + m) (.tup [.str "false"])) := by
      funext h
      have e1 : (58 + (m : Int)).toNat = 58 + m := by omega
      have e2 : (58 + (m : Int)).natAbs = 58 + m := by omega
      simp only [binD, asList, retN, e1, e2]
      rw [if_pos ⟨by omega, by simp [lim]; omega⟩]
      simp
    try simp [mu, -exs_cons]
    rw [exs_cons, wp_bind]
    have mid : ∀ f, Wp (ex (par T (k + 2)) lg_mid [some (.ref 0), some f, some (.ref 1), none]) [o2, .lst (List.replicate (58 + m) (.tup [.str "false"]))] (fun q h' => q = .nx [some (.ref 0), some f, some (.ref 1), none] ∧ ∃ o' rows, Strm o' ∧ h' = [o', .lst rows] ∧ rows.length ≤ 62 ∧ 1 ≤ rows.length ∧ ∀ d ∈ rows, Gr 2 d) := by
      intro f
      have hf : Gr 2 (.tup [.str "false"]) := ⟨by decide +kernel, by decide⟩
      simp [lg_mid]
      refine (wp_draw (hD O) so2 (by omega) (by omega)).mono ?_
      rintro _ _ ⟨i, o', rfl, _, _, so', rfl⟩
      try simp
      constructor
      · intro _
        rw [wp_set_ref (xs := List.replicate (58 + m) (.tup [.str "false"])) (j := 0) rfl (by simp [ixN]; omega)]
        simp
        refine ⟨o', so', _, ⟨rfl, rfl⟩, by simp; omega, by simp; omega, ?_⟩
        intro d hd
        rcases List.mem_or_eq_of_mem_set hd with hd | rfl
        · rw [(List.mem_replicate.mp hd).2]
          exact hf
        · exact ⟨by decide +kernel, by decide⟩
      · intro _
        refine ⟨o', so', _, ⟨rfl, rfl⟩, by simp; omega, by simp; omega, ?_⟩
        intro d hd
        rw [(List.mem_replicate.mp hd).2]
        exact hf
    refine (mid _).mono ?_
    rintro _ _ ⟨rfl, o', rows, so', rfl, l1, l2, hg⟩
    rw [andThen_nx]
    refine (g_rows O W (h := [o', .lst rows]) (r := 1) rfl l1 l2 hg).mono ?_
    rintro _ _ ⟨d, e, rfl, hd, rfl⟩
    exact fin d o' (.lst rows :: e) hd so'
end

section
variable {T : Prog} (O : TOk T) (W : 1000 ≤ T.wf) (I : T.isa 2 2 = true)
include O
theorem c_check {k : Nat} {o : MO} {v : D} (hp : pl v = true) (hk : depD v + 4 ≤ k) {Q : D → Hs → Prop} {E} (q : (partF v 0 1).1 = true → Q .non [o]) (e : (partF v 0 1).1 = false → E 2 [] [o]) : Wp (callI T (k + 2) 10 [v]) [o] Q E := by
  refine wp_callP (n := 1) (np := 1) (b := b_check_formula) (dr := false) (by rw [O.fns]; rfl) rfl ?_
  simp [b_check_formula, startD]
  refine c_is_formula O hp hk ?_
  cases z : (partF v 0 1).1 with
  | true => simpa [z] using q z
  | false => simpa [z] using e z
include I
theorem c_refused {k : Nat} {o : MO} {v : D} (hp : pl v = true) (hk : depD v + 4 ≤ k) {Q : D → Hs → Prop} {E} (q : Q (.bl !(partF v 0 1).1) [o]) : Wp (callI T (k + 3) 33 [v]) [o] Q E := by
  refine wp_callP (n := 1) (np := 1) (b := b_law_is_refused) (dr := false) (by rw [O.fns]; rfl) rfl ?_
  simp [b_law_is_refused, startD]
  refine c_check O hp hk ?_ ?_
  · intro z
    simpa [z] using q
  · intro z
    have i : (par T (k + 2)).isa 2 2 = true := I
    simpa [z, I, i] using q
include W
/-- what is asked of a value -/
theorem law_end {k : Nat} {o : MO} {ns : List Int} {v : D} {p : Option D} (hp : pl v = true) (hf : fair v = true) (ha : allI SS v = true) (hd : depD v ≤ 64) (hk : 80 ≤ k) {Q : D → Hs → Prop} {hh : Hs} (q : Q (.bl true) [o]) :
    Wp (exs (par T k) (.cons (.asg (.name 4) (.call 29 (.cons (.var 2) .nil)))
(.cons (.ite (.or (.not (.call 18 (.cons (.call 9 (.cons (.var 2) .nil)) (.cons (.var 4) .nil)))) (.cmp .eq (.call 33 (.cons (.var 2) .nil)) (.var 4)))
 (.cons (.ret (.yes (.con (.bl false))))
 .nil)
 .nil)
(.cons (.ret (.yes (.or (.not (.var 4)) (.call 17 (.cons (.call 13 (.cons (.var 2) .nil)) (.cons (.call 24 (.cons (.var 2) .nil)) .nil))))))
.nil))) [some (.lst (ns.map .int)), some (.ref 0), some v, p, none]) [o] (Fin false hh Q NoE) := by
  obtain ⟨k, rfl⟩ : ∃ j, k = j + 3 := ⟨k - 3, by omega⟩
  simp [c_due O hp hf hd (k := k + 2) (by omega)]
  refine c_is_formula O hp (k := k + 2) (by omega) ?_
  simp [c_says O]
  refine c_refused O I hp (k := k) (by omega) ?_
  cases z : (partF v 0 1).1 with
  | false => simpa [z] using q
  | true =>
    obtain ⟨f, of, rfl⟩ := shF_fm v (partF_sh v 0 1 z)
    have h1 := (partF_fm f 0 1 of (by omega) (by omega)).1
    rw [z] at h1
    have h2 := of_decide_eq_true h1.symm
    have e1 : callI T (k + 3) 13 [f.d] [o] = .ok (.lst (f.lfree.map .int)) [o] := c_free_of O (k := k + 2) (by omega) (by omega) (by omega) ha (by decide)
    have e2 := c_lfree O f (k + 3) (by omega) (by omega)
    have e3 := c_same O (k := k + 1) (l := f.lfree) (by have := f.lfree_len; omega)
    simp
    refine Wp.of_eq e1 ?_
    simp [e2, e3]
    exact q
theorem law_true {ns : List Int} {k : Nat} (hk : 90 ≤ k) : Wp (callI T (k + 1) 34 [.lst (ns.map .int)]) [] (fun d _ => d = .bl true) := by
  obtain ⟨k, rfl⟩ : ∃ j, k = j + 3 := ⟨k - 3, by omega⟩
  refine wp_callP (n := 5) (np := 1) (b := b_law) (dr := false) (by rw [O.fns]; rfl) rfl ?_
  rw [b_law, exs_cons, wp_bind]
  simp [startD, -exs_cons]
  refine (wp_stream (k := k + 2) (i := 14) (by rw [O.fns]; rfl)).mono ?_
  rintro _ _ ⟨rfl, o, so, rfl⟩
  try simp [-exs_cons]
  rw [exs_cons, wp_bind]
  simp [-exs_cons]
  refine (g_any O (S := SS) (by decide) (by decide) 4 (k + 3) 4 o [0, 3] (by decide) (by simp) (by omega) (by omega) (by omega) so).mono ?_
  rintro v _ ⟨⟨f, rfl, f1, f2, f3⟩, o, so, rfl⟩
  have c6 := f.cl_of f1 f2
  have d14 : depD f.d ≤ 14 := by
    have := f.dep
    omega
  try simp [-exs_cons]
  rw [exs_cons, wp_bind]
  simp [-exs_cons]
  refine (wp_draw (hD O) so (by omega) (by omega)).mono ?_
  rintro _ _ ⟨i, o, rfl, h0, h1, so, rfl⟩
  try simp [-exs_cons]
  rw [exs_cons, wp_bind]
  refine Wp.mono (Q := fun q h' => ∃ v, (q = .nx [some (.lst (ns.map .int)), some (.ref 0), some v, some (.int i), none] ∧ cl SS 7 v = true ∧ depD v ≤ 64) ∧ ∃ o, Strm o ∧ h' = [o]) ?_ ?_
  · by_cases i0 : i = 0
    · simp [i0]
      refine (g_great O W (k := k) so).mono ?_
      rintro d _ ⟨⟨h1, h2⟩, o, so, rfl⟩
      try simp
      exact ⟨⟨h1, h2⟩, so⟩
    · by_cases i1 : 1 < i
      · simp [i0, i1]
        obtain ⟨xs, hx, hne⟩ : ∃ xs, f.d = .tup xs ∧ xs ≠ [] := by cases f <;> exact ⟨_, rfl, by simp⟩
        rw [hx] at c6 d14 ⊢
        refine (g_changed O 14 (k + 3) xs o hne c6 d14 (by omega) (by omega) so).mono ?_
        rintro d _ ⟨⟨h1, h2⟩, o, so, rfl⟩
        try simp
        exact ⟨⟨h1, by omega⟩, so⟩
      · simp [i0, i1]
        exact ⟨⟨cl_up (by omega) _ c6, by omega⟩, so⟩
  · rintro _ _ ⟨v, ⟨rfl, c7, d64⟩, o, so, rfl⟩
    rw [andThen_nx]
    have := cl_pl (by omega) v c7
    exact law_end O W I this.1 this.2.1 this.2.2 d64 (by omega) rfl
end

end K53
namespace K53
open PySem PySem.Spec PyProof.Rows L2 PX
abbrev rw53 : PySem.W.OpenLaw := PySem.Challenge.rw_leatever_k53_formulas
def defs : List He.DefD := defsOf rw53.prog.main.body
def pk1 : Pk := pk defs
theorem chk : chkAll pk1.nm pk1.defs pk1.N pk1.fns = true := by kernel_rfl
abbrev R : PySem.W.OpenRow := PySem.W.OpenLaw.row rw53
def loose : List Str := (R.prog.main.scope.names.map (·.1)).filter fun x => !decide (x = "law")
abbrev hk : PySem.W.Hook := He.hookX 5 [] defs [] [] (pkB pk1)
def ob (s : PySem.W.SharedT) : He.AlX := He.obsX 5 [] defs [] [] (pkB pk1) (HandSHeadRun.getT s)
theorem ob_eq (s : PySem.W.SharedT) : ob s = hk.obs s.abs := He.obsX_eq (HandSHeadRun.getT_eq s)
theorem run (w : World) : HandSHeadRun.RunEq R (PySem.W.view R.prog [47]) hk ob 3000 loose w := by
  intro os
  kernel_rfl
def dl : He.DefD := defs.getD 34 ⟨("", none), "", "", ⟨[], [], none, [], [], none, []⟩, [], ⟨.function, [], false, false, []⟩, [], []⟩
abbrev dfr : DefRec := HandSHeadRun.topDef R.prog 47
theorem hdl : pk1.defs[34]? = some dl := by kernel_rfl
theorem hat : dl.at_ = (dfr.name, none) := by kernel_rfl
theorem hx : dl.params.args.map (·.arg) = [("script" : Str)] := by kernel_rfl
def Sem : Prop := ∀ ns : List Int, ns.length ≤ 63 → ∃ h', callI pk1.T 100 34 [.lst (ns.map D.int)] [] = .ok (.bl true) h'
theorem saysOf (w : World) (h : Heap) : hk.says w h → ∃ K : Fr, K.In h ∧ He.SaysD [] pk1.defs K ∧ pkB pk1 K = true := fun ⟨K, h1, h2⟩ => ⟨K, h1, h2.t.d, h2.more⟩
theorem tOk : TOk pk1.T := ⟨rfl, by kernel_rfl, by kernel_rfl, by kernel_rfl⟩
theorem sem : Sem := by
  intro ns _
  obtain ⟨d, h', e, rfl⟩ := (law_true tOk (by decide +kernel) (by kernel_rfl) (ns := ns) (k := 99) (by omega)).get
  exact ⟨h', e⟩
end K53
open PySem PySem.W PySem.Calls PyProof.Rows
theorem PySem.Challenge.cw_leatever_k53_formulas_holds : PySem.Challenge.rw_leatever_k53_formulas.Holds := by
  w_on; o_law
  refine HandSHeadRun.head_any (r := OpenLaw.row PySem.Challenge.rw_leatever_k53_formulas) (q := view (OpenLaw.row PySem.Challenge.rw_leatever_k53_formulas).prog [47]) (H := K53.hk) (ob := K53.ob) (M := 3000) (loose := K53.loose) (d := HandSHeadRun.topDef (OpenLaw.row PySem.Challenge.rw_leatever_k53_formulas).prog 47) (kwd := []) K53.ob_eq
    (by kernel_rfl) (fun s => by kernel_rfl) K53.run (by kernel_rfl) (by kernel_rfl) (by kernel_rfl) (by rfl) (by first | assumption | decide +kernel) (by decide +kernel) ⟨rfl, rfl, rfl, rfl, rfl, by decide +kernel⟩ ?hw ?hc
  case hw => w_witness2
  case hc => exact PX.walk_px (kk := 99) (iL := 34) (x := "script") (pk := K53.pk1) (fa := []) (dl := K53.dl) rfl (by decide) (by kernel_rfl) ⟨rfl, by decide, by decide⟩ K53.saysOf K53.chk K53.hdl K53.hat K53.hx K53.sem

