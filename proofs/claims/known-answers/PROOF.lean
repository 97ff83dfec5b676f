import PyProof.Rows.All
import Wide.All
import OpenK.AllK
import Wide.FinOn
import HandS.ForMost
import KE.DataCmp
import KE.DataEq
import KE.SortData
import KE.DataMinMax
import HandS.Exc
import HandS.ExcOwn
import HandS.CallSlots
import HandS.WordsExc
import HandS.TupAny
import HandS.TupMul
import HandS.TupLe
import HandS.Style
import HandS.IsInst
import HandS.Conv
import HandS.Text
import HandS.Dict
import HandS.WordsDict
import HandS.TupLen
import KE.GoesEnumKw
import HandS.Zip
import HandS.Iter
import HandS.SortKw
import HandS.Small
import HandS.DictComp
import HandS.Property
import HandS.Star
import KE.SortKeyed
import HandS.OwnEq
import HandS.NamedTupGet
import KE.KDictCopyH
import KE.KDictKeyed
import HandS.Strs
import HandS.Defaults
import HandS.HeadHook4
import HandS.HeadWalk
import HandS.HeadEnd
import HandS.Codes
import HandS.Head2
import PySem.Challenge.RW_pricefan_k51_known_answers
set_option Elab.async false
set_option linter.all false
set_option maxRecDepth 100000
/-! Mn1: a small language of data trees, and what its terms yield (no machine here). -/
namespace Mn
open PySem
abbrev sLn : Nat := PySem.sizeLine
/-! ### data -/
mutual
inductive D where
  | non | bl (b : Bool) | int (i : Int) | str (s : Str)
  | tup (xs : List D)
  /-- an object that nobody changes any more -/
  | obj (o : O)
  /-- a changing object of all -/
  | g (n : Nat)
  /-- the script: a list of ints that nobody changes, wherever it stands -/
  | scr (ns : List Int)
inductive O where
  | lst (xs : List D)
  | dK (kvs : List (D × D))
  | dT (kvs : List (D × D))
  | ins (c : Nat) (fs : List D)
end
instance : Inhabited D := ⟨.non⟩
instance : Inhabited O := ⟨.lst []⟩
/-- what an expression yields: data; a new object that nobody holds yet; the object of slot i; a written tuple of the module -/
inductive W where
  | d (x : D) | f (o : O) | b (i : Nat) | k (xs : List D)
/-- a slot: nothing; data; an object of its own -/
inductive S where
  | un | d (x : D) | own (o : O)
/-- an error: its class, its fields -/
structure XV where
  c : Nat
  fs : List D
inductive R (α : Type) where
  | ok (a : α) (e : List S) (G : List O)
  | ex (x : XV) (e : List S) (G : List O)
  | no
@[inline] def R.bind {α β : Type} (r : R α) (f : α → List S → List O → R β) : R β := match r with
  | .ok a e G => f a e G
  | .ex x e G => .ex x e G
  | .no => .no
/-- a proof that simp must name -/
theorem nr {α : Sort _} {a b : α} (h : a = b) : a = b := h
@[simp] theorem R.bind_ok {α β : Type} (a : α) (e : List S) (G : List O) (f : α → List S → List O → R β) : (R.ok a e G).bind f = f a e G := nr rfl
@[simp] theorem R.bind_no {α β : Type} (f : α → List S → List O → R β) : (R.no : R α).bind f = .no := nr rfl
@[simp] theorem R.bind_ex {α β : Type} (x : XV) (e : List S) (G : List O) (f : α → List S → List O → R β) : (R.ex x e G : R α).bind f = .ex x e G := nr rfl
/-- what a call yields -/
inductive RC where
  | ok (w : W) (G : List O)
  | ex (x : XV) (G : List O)
  | no
abbrev Call := Nat → List D → List O → RC
/-! ### the language -/
inductive BOp where | add | sub | mul | mod | fdv | pow
inductive COp where | eq | ne | lt | le | gt | ge | isN | isNt | mem | nmem | dmem | dnmem
inductive B1 where | len | all | any | sum | tup | list | sorted | min | max | abs | int | repr | setlen | rng | str
inductive B2 where | rng | min | max | isi
inductive Ty where | int | bool | str | list | tuple | dict | lt | cls (c : Nat)
inductive MM where | append | pop | popAt | extend | insert | clear | reverse | index | count | dget | dget2 | dput | dpop | upd | join | startswith | split | keys | values | items
mutual
inductive Tg where
  | nm (i : Nat) | tp (ts : Tgs)
inductive Tgs where
  | nil | cons (a : Tg) (r : Tgs)
end
mutual
def Tg.slots : Tg → List Nat
  | .nm i => [i]
  | .tp ts => Tgs.slots ts
def Tgs.slots : Tgs → List Nat
  | .nil => []
  | .cons a r => Tg.slots a ++ Tgs.slots r
end
mutual
inductive E where
  | var (i : Nat) | own (i : Nat)
  | kI (i : Int) | kS (s : Str) | kB (b : Bool) | kN
  | glb (x : Nat)
  | tup (es : Es) | lst (es : Es) | dct0 (t : Bool) | dctK (ks : List Str) (es : Es) | glo (e : E)
  | bin (op : BOp) (a b : E) | neg (a : E)
  | cmp (op : COp) (a b : E) | cmo (neg : Bool) (a b : E) | chn (o1 o2 : COp) (a b c : E)
  | not (a : E) | and (a b : E) | or (a b : E) | ite (c a b : E)
  | ix (a i : E) | dix (a k : E)
  | sl (a : E) (lo hi : Eo)
  | rev (a : E)
  | fld (a : E) (c k : Nat)
  | call (f : Nat) (es : Es) | mth (a : E) (c f : Nat) (es : Es) | mk (c : Nat) (es : Es)
  | b1 (b : B1) (a : E) | b2 (b : B2) (a b' : E) | isi (a : E) (t : Ty)
  | mm (m : MM) (t : E) (es : Es)
  | lc (vs : List Nat) (elt : E) (tg : Tg) (it : It) (ifs : Eo)
  | lc2 (vs : List Nat) (elt : E) (tg : Tg) (it : It) (tg1 : Tg) (it1 : It)
  | d1 (t : Bool) (k v : E)
  | dc (t : Bool) (vs : List Nat) (k v : E) (tg : Tg) (it : It) (ifs : Eo)
  | prop (a : E) (c f : Nat)
  | lenI (a : E) (c f : Nat)
inductive Es where
  | nil | cons (e : E) (r : Es) | star (e : E) (r : Es)
inductive Eo where
  | none | some (e : E)
inductive It where
  | seq (e : E) | ownl (i : Nat) | rng (a b : E) | enum (e : E) | zip (st : Bool) (a b : E) | items (e : E) | vals (e : E) | keys (e : E)
end
mutual
inductive C where
  | asg (tg : Tg) (e : E) | asgO (i : Nat) (e : E)
  | par (i j : Nat) (oj : Bool) (a b : E)
  | parF (i j : Nat) (oj : Bool) (a b : E)
  | aug (i : Nat) (op : BOp) (e : E)
  | seto (t i v : E)
  | setf (t : E) (c k : Nat) (v : E)
  | ex (e : E)
  | ret (e : E) | retO (i : Nat) | retN
  | if_ (c : E) (a b : Cs)
  | for_ (tg : Tg) (it : It) (body : Cs)
  | while_ (c : E) (body : Cs)
  | pas | brk | cnt
  | frz (i : Nat)
  | rais (c : Nat) (es : Es)
inductive Cs where
  | nil | cons (c : C) (r : Cs)
end
/-! ### equality, order -/
mutual
def D.eqv : D → D → Bool
  | .non, .non => true
  | .bl a, .bl b => a == b
  | .bl a, .int j => (if a then 1 else 0) == j
  | .int i, .bl b => i == (if b then 1 else 0)
  | .int i, .int j => i == j
  | .str s, .str t => s == t
  | .tup xs, .tup ys => D.eqvL xs ys
  | .obj (.lst xs), .obj (.lst ys) => D.eqvL xs ys
  | _, _ => false
termination_by structural d => d
def D.eqvL : List D → List D → Bool
  | [], [] => true
  | x :: xs, y :: ys => D.eqv x y && D.eqvL xs ys
  | _, _ => false
termination_by structural d => d
end

mutual
def D.lt : D → D → Bool
  | .bl a, .bl b => !a && b
  | .int i, .int j => decide (i < j)
  | .str s, .str t => decide (s.cps.toList < t.cps.toList)
  | .tup xs, .tup ys => D.ltL xs ys
  | .obj (.lst xs), .obj (.lst ys) => D.ltL xs ys
  | _, _ => false
termination_by structural d => d
def D.ltL : List D → List D → Bool
  | [], [] => false
  | [], _ :: _ => true
  | _ :: _, [] => false
  | x :: xs, y :: ys => if D.eqv x y then D.ltL xs ys else D.lt x y
termination_by structural d => d
end
mutual
def D.alk : D → D → Bool
  | .non, .non => true
  | .bl _, .bl _ => true
  | .int _, .int _ => true
  | .str _, .str _ => true
  | .tup xs, .tup ys => D.alkL xs ys
  | .obj (.lst xs), .obj (.lst ys) => D.alkL xs ys
  | _, _ => false
termination_by structural d => d
def D.alkL : List D → List D → Bool
  | x :: xs, y :: ys => D.alk x y && D.alkL xs ys
  | [], _ => true
  | _ :: _, [] => true
termination_by structural d => d
end
mutual
def D.dat : D → Nat → Bool
  | .non, _ => true
  | .bl _, _ => true
  | .int _, _ => true
  | .str _, _ => true
  | .tup xs, n => (match n with | 0 => false | n + 1 => D.datL xs n)
  | .obj o, n => O.dat o n
  | .g _, _ => false
  | .scr _, _ => false
termination_by structural d => d
def O.dat : O → Nat → Bool
  | .lst xs, n => (match n with | 0 => false | n + 1 => D.datL xs n)
  | _, _ => false
termination_by structural d => d
def D.datL : List D → Nat → Bool
  | [], _ => true
  | x :: xs, n => D.dat x n && D.datL xs n
termination_by structural d => d
end
def deep : Nat := 60
mutual
/-- changing objects as they stand, not within lists -/
def D.rsv (G : List O) : D → D
  | .non => .non
  | .bl b => .bl b
  | .int i => .int i
  | .str s => .str s
  | .tup xs => .tup (D.rsvL G xs)
  | .obj o => .obj o
  | .g n => (match G[n]? with
    | some o => .obj o
    | none => .g n)
  | .scr ns => .scr ns
termination_by structural d => d
def D.rsvL (G : List O) : List D → List D
  | [] => []
  | x :: xs => D.rsv G x :: D.rsvL G xs
termination_by structural d => d
end
/-- a is no None, and a < b has an answer -/
def D.cmpb (a b : D) : Bool := D.alk a b && (match a with | .non => false | _ => true) && D.dat a deep && D.dat b deep
/-! ### reading -/
def toD : W → Option D
  | .d x => some x
  | .f o => some (.obj o)
  | _ => none
def rdO (e : List S) (G : List O) : W → Option O
  | .d (.obj o) => some o
  | .d (.g n) => G[n]?
  | .f o => some o
  | .b i => (match e[i]? with | some (.own o) => some o | _ => none)
  | _ => none
/-- the items of a list, a tuple -/
def rdL (e : List S) (G : List O) : W → Option (List D)
  | .d (.tup xs) => some xs
  | .d (.scr ns) => some (ns.map .int)
  | .k xs => some xs
  | w => (match rdO e G w with | some (.lst xs) => some xs | _ => none)
/-- what is walked, item by item -/
def rdI (e : List S) (G : List O) (w : W) : Option (List D) := match w with
  | .d (.str z) => some (z.cps.toList.map fun c => .str ⟨#[c]⟩)
  | w => rdL e G w
def rdl (e : List S) (G : List O) (w : W) : Option (List D) := match rdO e G w with
  | some (.lst xs) => some xs
  | _ => none
def intsD : List D → Option (List Int)
  | [] => some []
  | .int i :: r => (intsD r).map (i :: ·)
  | _ :: _ => none
def blsD : List D → Option (List Bool)
  | [] => some []
  | .bl i :: r => (blsD r).map (i :: ·)
  | _ :: _ => none
def strsD : List D → Option (List Str)
  | [] => some []
  | .str i :: r => (strsD r).map (i :: ·)
  | _ :: _ => none
def isK : D → Bool
  | .int _ => true
  | .str _ => true
  | _ => false
/-- a key of the first sort, of the second sort -/
def isT : D → Bool
  | .tup xs => xs.all isK
  | _ => false
def lookD (kvs : List (D × D)) (k : D) : Option D := match kvs with
  | [] => none
  | p :: r => if D.eqv p.1 k then some p.2 else lookD r k
def setD (kvs : List (D × D)) (k v : D) : List (D × D) := match kvs with
  | [] => []
  | p :: r => if D.eqv p.1 k then (p.1, v) :: setD r k v else p :: setD r k v
def putD (kvs : List (D × D)) (k v : D) : List (D × D) := if (lookD kvs k).isSome then setD kvs k v else kvs ++ [(k, v)]
def dropD (kvs : List (D × D)) (k : D) : List (D × D) := kvs.filter fun p => !D.eqv p.1 k
def mergeD (kvs more : List (D × D)) : List (D × D) := more.foldl (fun a p => putD a p.1 p.2) kvs
/-- a dict with the keys' look-up: the answer to a key -/
def rdK (o : O) (k : D) : Option (Option D) := match o with
  | .dK kvs => if isK k then some (lookD kvs k) else none
  | .dT kvs => if isT k then some (lookD kvs k) else none
  | _ => none
def wrK (o : O) (k v : D) : Option O := match o with
  | .dK kvs => if isK k && decide (kvs.length < sLn) then some (.dK (putD kvs k v)) else none
  | .dT kvs => if isT k && decide (kvs.length < sLn) then some (.dT (putD kvs k v)) else none
  | _ => none
def ixN (n : Nat) (i : Int) : Option Nat := L2.ixN n i
def atD (xs : List D) (i : Int) : Option D := L2.atI xs i
def cut (xs : List D) (lo hi : Option Int) : List D := (xs.drop (HT.sIx xs.length 0 lo)).take (HT.sIx xs.length xs.length hi - HT.sIx xs.length 0 lo)
def ixop (e : List S) (G : List O) (w : W) (i : Int) : Option D := match w with
  | .d (.str z) => if z.length ≤ sLn then (L2.atI z.cps.toList i).map fun c => .str ⟨#[c]⟩ else none
  | w => (rdL e G w).bind fun xs => atD xs i
def slop (e : List S) (G : List O) (w : W) (l h : Option Int) : Option W := match w with
  | .d (.str z) => if z.length ≤ sLn then some (.d (.str (L2.cutS z l h))) else none
  | .d (.tup xs) => some (.d (.tup (cut xs l h)))
  | .k xs => if HT.sIx xs.length 0 l = 0 ∧ HT.sIx xs.length xs.length h = xs.length then some (.k xs) else some (.d (.tup (cut xs l h)))
  | w => (match rdO e G w with
    | some (.lst xs) => some (.f (.lst (cut xs l h)))
    | _ => none)
/-! ### sorting: the least first, equal ones in their turns -/
def mrg {α : Type} (le : α → α → Bool) : Nat → List α → List α → List α
  | 0, xs, ys => xs ++ ys
  | n + 1, xs, ys => (match xs, ys with
    | [], ys => ys
    | xs, [] => xs
    | x :: xs, y :: ys => if le x y then x :: mrg le n xs (y :: ys) else y :: mrg le n (x :: xs) ys)
/-- sorting that the kernel can follow -/
def msrt {α : Type} (le : α → α → Bool) : Nat → List α → List α
  | 0, xs => xs
  | n + 1, xs => (match xs with
    | [] => []
    | [a] => [a]
    | a :: b :: r => mrg le (r.length + 2) (msrt le n ((a :: b :: r).take ((r.length + 3) / 2))) (msrt le n ((a :: b :: r).drop ((r.length + 3) / 2))))
theorem mrg_eq {α : Type} (le : α → α → Bool) : ∀ (n : Nat) (xs ys : List α), xs.length + ys.length ≤ n → mrg le n xs ys = xs.merge ys le
  | 0, xs, ys, h => by
    have : xs = [] := List.eq_nil_of_length_eq_zero (by omega)
    have : ys = [] := List.eq_nil_of_length_eq_zero (by omega)
    subst_vars
    simp [mrg]
  | n + 1, [], ys, h => by simp [mrg]
  | n + 1, x :: xs, [], h => by simp [mrg]
  | n + 1, x :: xs, y :: ys, h => by
    have h1 : xs.length + (y :: ys).length ≤ n := by simp at h ⊢; omega
    have h2 : (x :: xs).length + ys.length ≤ n := by simp at h ⊢; omega
    simp only [mrg, List.cons_merge_cons, mrg_eq le n _ _ h1, mrg_eq le n _ _ h2]
theorem msrt_eq {α : Type} (le : α → α → Bool) : ∀ (n : Nat) (xs : List α), xs.length ≤ n → msrt le n xs = xs.mergeSort le
  | 0, xs, h => by
    have : xs = [] := List.eq_nil_of_length_eq_zero (by omega)
    subst this
    simp [msrt]
  | n + 1, [], h => by simp [msrt]
  | n + 1, [a], h => by simp [msrt]
  | n + 1, a :: b :: r, h => by
    have h1 : ((a :: b :: r).take ((r.length + 3) / 2)).length ≤ n := by simp at h ⊢; omega
    have h2 : ((a :: b :: r).drop ((r.length + 3) / 2)).length ≤ n := by simp at h ⊢; omega
    rw [List.mergeSort]
    simp only [msrt, msrt_eq le n _ h1, msrt_eq le n _ h2]
    rw [mrg_eq le _ _ _ (by simp; omega)]
    simp [List.MergeSort.Internal.splitInTwo, List.splitAt_eq]
def srtD (xs : List D) : List D := msrt (fun a b => !D.lt b a) xs.length xs
theorem srtD_eq (xs : List D) : srtD xs = xs.mergeSort fun a b => !D.lt b a := msrt_eq _ _ xs (Nat.le_refl _)
/-- all are tuples that are not empty, or none is a tuple, None -/
def isNT : D → Bool
  | .tup (_ :: _) => true
  | _ => false
def noT : D → Bool
  | .tup _ => false
  | .non => false
  | _ => true
def allCmp (xs : List D) : Bool := xs.all fun a => xs.all fun b => D.cmpb a b
def srtOk (xs : List D) : Bool := allCmp xs && (xs.all isNT || xs.all noT)
def minD (x : D) (xs : List D) : D := xs.foldl (fun a y => if D.lt y a then y else a) x
def maxD (x : D) (xs : List D) : D := xs.foldl (fun a y => if D.lt a y then y else a) x
/-! ### operators -/
def smallI (i : Int) : Bool := decide (-(2 ^ 64) < i) && decide (i < 2 ^ 64)
def addop (e : List S) (G : List O) (a b : D) : Option W := match a, b with
  | .int i, .int j => some (.d (.int (i + j)))
  | .int i, .bl j => some (.d (.int (i + (if j then 1 else 0))))
  | .bl i, .bl j => some (.d (.int ((if i then 1 else 0) + (if j then 1 else 0))))
  | .str s, .str t => if s.length + t.length ≤ sLn then some (.d (.str (s ++ t))) else none
  | .tup xs, .tup ys => if xs.length + ys.length ≤ sLn then some (.d (.tup (xs ++ ys))) else none
  | x, y => (match rdl e G (.d x), rdl e G (.d y) with
    | some xs, some ys => if xs.length + ys.length ≤ sLn then some (.f (.lst (xs ++ ys))) else none
    | _, _ => none)
def subop (a b : D) : Option W := match a, b with
  | .int i, .int j => some (.d (.int (i - j)))
  | _, _ => none
def mulop (e : List S) (G : List O) (a b : D) : Option W := match a, b with
  | .int i, .int j => if smallI i || smallI j then some (.d (.int (i * j))) else none
  | .tup xs, .int k => if !xs.isEmpty && decide (2 ≤ k) && decide (k ≤ 1000) && decide (xs.length ≤ 1000) then some (.d (.tup (List.replicate k.toNat xs).flatten)) else none
  | x, .int k => (match rdl e G (.d x) with
    | some xs => if decide (-(2 ^ 63) ≤ k) && decide (k < 2 ^ 63) && decide (xs.length * k.toNat ≤ sLn) then some (.f (.lst (List.replicate k.toNat xs).flatten)) else none
    | none => none)
  | _, _ => none
def modop (a b : D) : Option W := match a, b with
  | .int i, .int j => if 0 < j then some (.d (.int (i % j))) else none
  | _, _ => none
def fdvop (a b : D) : Option W := match a, b with
  | .int i, .int j => if decide (0 < j) && decide (j < 1073741824) then some (.d (.int (i / j))) else none
  | _, _ => none
def powop (a b : D) : Option W := match a, b with
  | .int i, .int j => if decide (0 ≤ j) && decide (j ≤ 1000000) && decide (i.natAbs < 2 ^ 64) then some (.d (.int (i ^ j.toNat))) else none
  | _, _ => none
def binop (e : List S) (G : List O) (op : BOp) (a b : D) : Option W := match op with
  | .add => addop e G a b
  | .sub => subop a b
  | .mul => mulop e G a b
  | .mod => modop a b
  | .fdv => fdvop a b
  | .pow => powop a b
def cmpop (e : List S) (G : List O) (op : COp) (a b : D) : Option Bool := match op with
  | .eq => if D.dat a deep && D.dat b deep then some (D.eqv a b) else none
  | .ne => if D.dat a deep && D.dat b deep then some (!D.eqv a b) else none
  | .lt => if D.cmpb a b then some (D.lt a b) else none
  | .gt => if D.cmpb a b then some (D.lt b a) else none
  | .le => if D.cmpb a b then some (!D.lt b a) else none
  | .ge => if D.cmpb a b then some (!D.lt a b) else none
  | .isN => (match b with | .non => some (match a with | .non => true | _ => false) | _ => none)
  | .isNt => (match b with | .non => some (match a with | .non => false | _ => true) | _ => none)
  | _ => none
/-- a in b, by what b is -/
def memop (e : List S) (G : List O) (a : D) (b : W) : Option Bool := match b with
  | .d (.str z) => (match a with | .str s => some (!(Builtin.Str.occurrences z s 0 z.length 1).isEmpty) | _ => none)
  | w => (match rdL e G w with
    | some xs => if D.dat a deep && D.datL xs deep then some (xs.any fun x => D.eqv x a) else none
    | none => (match rdO e G w with
      | some o => (rdK o a).map (·.isSome)
      | none => none))
inductive TN where | non | bl | int | str | tup | lst | dct | own (c : Nat)
def tnO : O → TN
  | .lst _ => .lst
  | .dK _ => .dct
  | .dT _ => .dct
  | .ins c _ => .own c
def tnD (G : List O) : D → Option TN
  | .non => some .non
  | .bl _ => some .bl
  | .int _ => some .int
  | .str _ => some .str
  | .tup _ => some .tup
  | .obj o => some (tnO o)
  | .g n => G[n]?.map tnO
  | .scr _ => none
def tyIs : Ty → TN → Option Bool
  | .cls c, .own c' => if c = c' then some true else none
  | .cls _, _ => some false
  | .int, .int => some true
  | .int, .bl => some true
  | .bool, .bl => some true
  | .str, .str => some true
  | .list, .lst => some true
  | .tuple, .tup => some true
  | .dict, .dct => some true
  | .lt, .lst => some true
  | .lt, .tup => some true
  | _, _ => some false
def isTy (G : List O) (t : Ty) (d : D) : Option Bool := (tnD G d).bind (tyIs t)
/-- the texts met, the newest first -/
def mets : List Str → List Str → List Str
  | seen, [] => seen
  | seen, k :: ks => mets (if k ∈ seen then seen else k :: seen) ks
def b1op (e : List S) (G : List O) (b : B1) (w : W) : Option W := match b with
  | .len => (match w with
    | .d (.str s) => if s.length ≤ sLn then some (.d (.int s.length)) else none
    | w => (match rdL e G w with
      | some xs => some (.d (.int xs.length))
      | none => (match rdO e G w with
        | some (.dK kvs) => some (.d (.int kvs.length))
        | some (.dT kvs) => some (.d (.int kvs.length))
        | _ => none)))
  | .all => (match (rdl e G w).bind blsD with | some bs => some (.d (.bl (bs.all id))) | none => none)
  | .any => (match (rdl e G w).bind blsD with | some bs => some (.d (.bl (bs.any id))) | none => none)
  | .sum => (match (rdl e G w).bind intsD with | some bs => some (.d (.int bs.sum)) | none => none)
  | .tup => (match w with
    | .k xs => some (.k xs)
    | w => (match rdL e G w with | some xs => some (.d (.tup xs)) | none => none))
  | .list => (match rdL e G w with
    | some xs => some (.f (.lst xs))
    | none => (match rdO e G w with
      | some (.dK kvs) => some (.f (.lst (kvs.map (·.1))))
      | some (.dT kvs) => some (.f (.lst (kvs.map (·.1))))
      | _ => none))
  | .sorted => (match rdl e G w with
    | some xs => if srtOk xs then some (.f (.lst (srtD xs))) else none
    | none => none)
  | .min => (match (rdL e G w).bind intsD with
    | some (x :: xs) => some (.d (.int (xs.foldl min x)))
    | _ => none)
  | .max => (match (rdL e G w).bind intsD with
    | some (x :: xs) => some (.d (.int (xs.foldl max x)))
    | _ => none)
  | .abs => (match w with | .d (.int i) => some (.d (.int (if i < 0 then -i else i))) | _ => none)
  | .int => (match w with
    | .d (.int i) => some (.d (.int i))
    | .d (.bl k) => some (.d (.int (if k then 1 else 0)))
    | _ => none)
  | .setlen => (match (rdL e G w).bind strsD with | some xs => if xs.length < 1000 then some (.d (.int (mets [] xs).length)) else none | none => none)
  | .rng => (match w with
    | .d (.int n) => if decide (-(2 ^ 62) ≤ n) && decide (n ≤ sLn) then some (.f (.lst ((List.range n.toNat).map fun (i : Nat) => .int i))) else none
    | _ => none)
  | _ => none
def b2op (b : B2) (x y : D) : Option W := match b, x, y with
  | .min, .int i, .int j => some (.d (.int (if j < i then j else i)))
  | .max, .int i, .int j => some (.d (.int (if j > i then j else i)))
  | .rng, .int i, .int j => if decide (-(2 ^ 62) ≤ i) && decide (i < 2 ^ 62) && decide (-(2 ^ 62) ≤ j) && decide (j < 2 ^ 62) && decide (j - i ≤ sLn) then some (.f (.lst ((List.range (j - i).toNat).map fun (k : Nat) => .int (i + k)))) else none
  | _, _, _ => none
/-- the hash of a tuple of ints -/
def hshT : D → Option Int
  | .tup xs => (intsD xs).map fun is => reduceHash (Builtin.Tuple.tupleHashOf (is.map hashInt))
  | _ => none
/-- all are tuples of ints, no two hash alike -/
def hshOk (kvs : List (D × D)) : Bool := kvs.all (fun p => (hshT p.1).isSome) && decide ((kvs.map fun p => hshT p.1).Nodup)
/-! ### the methods of lists and dicts: the answer, the object behind -/
def mmO (m : MM) (o : O) (as : List D) (e : List S) (G : List O) : Option (W × O) := match m, o, as with
  | .append, .lst xs, [d] => if xs.length < sLn then some (.d .non, .lst (xs ++ [d])) else none
  | .pop, .lst xs, [] => (xs[xs.length - 1]?).map fun y => (.d y, .lst xs.dropLast)
  | .popAt, .lst xs, [.int i] => if decide (-(2 ^ 63) ≤ i) && decide (i < 2 ^ 63) then (L2.ixN xs.length i).bind fun k => (xs[k]?).map fun y => (.d y, .lst (xs.eraseIdx k)) else none
  | .extend, .lst xs, [.tup ys] => if xs.length + ys.length ≤ sLn then some (.d .non, .lst (xs ++ ys)) else none
  | .insert, .lst xs, [.int i, d] => if decide (0 ≤ i) && decide (i < 2 ^ 63) && decide (xs.length < sLn) then some (.d .non, .lst (xs.take i.toNat ++ [d] ++ xs.drop i.toNat)) else none
  | .clear, .lst _, [] => some (.d .non, .lst [])
  | .reverse, .lst xs, [] => some (.d .non, .lst xs.reverse)
  | .upd, .dT kvs, [.obj (.dT more)] => if kvs.length + more.length ≤ sLn ∧ (kvs.isEmpty = false ∨ hshOk more = true) then some (.d .non, .dT (mergeD kvs more)) else none
  | .dget, o, [k] => (rdK o k).map fun r => (.d (r.getD .non), o)
  | .dget2, o, [k, x] => (rdK o k).map fun r => (.d (r.getD x), o)
  | _, _, _ => none
def upO (e : List S) (G : List O) (w : W) (o : O) : Option (List S × List O) := match w with
  | .b i => some (e.set i (.own o), G)
  | .d (.g n) => some (e, G.set n o)
  | .f _ => some (e, G)
  | _ => none
/-- methods of dicts -/
def mmDict : MM → Bool
  | .dget => true
  | .dget2 => true
  | .upd => true
  | _ => false
/-- what a method's object must be -/
def mmTy : MM → Option O → Bool
  | .dget, some (.dK _) => true
  | .dget, some (.dT _) => true
  | .dget2, some (.dK _) => true
  | .dget2, some (.dT _) => true
  | .upd, some (.dT _) => true
  | .upd, _ => false
  | .dget, _ => false
  | .dget2, _ => false
  | _, some (.lst _) => true
  | _, _ => false
/-- methods that change nothing -/
def mmP : MM → Bool
  | .dget => true
  | .dget2 => true
  | _ => false
def mmop (m : MM) (e : List S) (G : List O) (w : W) (as : List D) : R W := match rdO e G w with
  | none => .no
  | some o => (match mmO m o as e G with
    | none => .no
    | some (r, o') => if mmP m then .ok r e G else (match upO e G w o' with
      | none => .no
      | some (e', G') => .ok r e' G'))
/-! ### targets -/
/-- a slot that may be bound anew: no instance of its own stands there -/
def canSet (e : List S) (i : Nat) : Bool := match e[i]? with
  | none => false
  | some (.own (.ins _ _)) => false
  | _ => true
mutual
def setTg : Tg → D → List S → Option (List S)
  | .nm i, x, e => if canSet e i then some (e.set i (.d x)) else none
  | .tp ts, x, e => (match x with
    | .tup xs => setTgs ts xs e
    | _ => none)
termination_by structural t => t
def setTgs : Tgs → List D → List S → Option (List S)
  | .nil, xs, e => (match xs with
    | [] => some e
    | _ => none)
  | .cons a r, xs, e => (match xs with
    | x :: xs => (setTg a x e).bind fun e' => setTgs r xs e'
    | _ => none)
termination_by structural t => t
end
end Mn
/-! Mn2: what terms, statements, defs yield. -/
namespace Mn
open PySem
/-- what is walked -/
inductive Sr where
  | seq (w : W) | rng (a : Int) (n : Nat) | enum (w : W) | zip (v w : W) | keys (o : O) | vals (o : O) | items (o : O)
def entO : O → Option (List (D × D))
  | .dK kvs => some kvs
  | .dT kvs => some kvs
  | _ => none
def rdS (sr : Sr) (e : List S) (G : List O) : Option (List D) := match sr with
  | .seq w => rdI e G w
  | .rng a n => some ((List.range n).map fun (k : Nat) => .int (a + k))
  | .enum w => (rdL e G w).map fun xs => (xs.zipIdx).map fun p => .tup [.int p.2, p.1]
  | .zip v w => (rdL e G v).bind fun xs => (rdL e G w).map fun ys => (xs.zip ys).map fun p => .tup [p.1, p.2]
  | .keys o => (entO o).map fun kvs => kvs.map (·.1)
  | .vals o => (entO o).map fun kvs => kvs.map (·.2)
  | .items o => (entO o).map fun kvs => kvs.map fun p => .tup [p.1, p.2]
def wipeS (e : List S) : List Nat → List S
  | [] => e
  | v :: vs => (wipeS e vs).set v .un
def backS (e0 e : List S) : List Nat → List S
  | [] => e
  | v :: vs => (match e0[v]? with
    | some s => (backS e0 e vs).set v s
    | none => backS e0 e vs)
def noOwn (e : List S) (vs : List Nat) : Bool := vs.all fun v => match e[v]? with
  | some (.own _) => false
  | _ => true
/-- a comprehension's turns: k are left, i are done -/
def compD (rd : List S → List O → Option (List D)) (f : D → List S → List O → R (List D)) : Nat → Nat → List D → List S → List O → R (List D)
  | 0, i, acc, e, G => (match rd e G with
    | some ys => if ys.length = i then .ok acc e G else .no
    | none => .no)
  | k + 1, i, acc, e, G => (match rd e G with
    | some ys => (match ys[i]? with
      | some x => if acc.length < sLn then (f x e G).bind fun o e' G' => compD rd f k (i + 1) (acc ++ o) e' G' else .no
      | none => .no)
    | none => .no)
/-- the same, what is found so far at hand -/
def compA (rd : List S → List O → Option (List D)) (f : D → List D → List S → List O → R (List D)) : Nat → Nat → List D → List S → List O → R (List D)
  | 0, i, acc, e, G => (match rd e G with
    | some ys => if ys.length = i then .ok acc e G else .no
    | none => .no)
  | k + 1, i, acc, e, G => (match rd e G with
    | some ys => (match ys[i]? with
      | some x => (f x acc e G).bind fun acc e' G' => compA rd f k (i + 1) acc e' G'
      | none => .no)
    | none => .no)
/-- a dict comprehension's turns -/
def compK (rd : List S → List O → Option (List D)) (f : D → List S → List O → R (Option (D × D))) : Nat → Nat → O → List S → List O → R O
  | 0, i, o, e, G => (match rd e G with
    | some ys => if ys.length = i then .ok o e G else .no
    | none => .no)
  | k + 1, i, o, e, G => (match rd e G with
    | some ys => (match ys[i]? with
      | some x => (f x e G).bind fun p e' G' => (match p with
        | none => compK rd f k (i + 1) o e' G'
        | some (y, z) => (match wrK o y z with
          | some o' => compK rd f k (i + 1) o' e' G'
          | none => .no))
      | none => .no)
    | none => .no)
def dB : W → Option Bool
  | .d (.bl b) => some b
  | _ => none
/-- no error may come -/
def R.quiet {α : Type} (r : R α) : R α := match r with
  | .ex _ _ _ => .no
  | r => r
def toR (r : Option W) (e : List S) (G : List O) : R W := match r with
  | some w => .ok w e G
  | none => .no
def R.toD (r : R W) : R D := r.bind fun w e G => match Mn.toD w with
  | some d => .ok d e G
  | none => .no
def W.soft : W → W
  | .f o => .d (.obj o)
  | w => w
def R.soft (r : R W) : R W := r.bind fun w e G => .ok w.soft e G
def R.toB (r : R W) : R Bool := r.bind fun w e G => match dB w with
  | some d => .ok d e G
  | none => .no
def ofRC (r : RC) (e : List S) : R W := match r with
  | .ok w G => .ok w e G
  | .ex x G => .ex x e G
  | .no => .no
def cmpW (e : List S) (G : List O) (op : COp) (a : D) (b : W) : Option Bool := match op with
  | .mem => memop e G a b
  | .nmem => (memop e G a b).map (!·)
  | _ => (Mn.toD b).bind fun d => cmpop e G op a d
def emO (t : Bool) : O := if t then .dT [] else .dK []
/-- two values, changing objects read as they stand -/
def cmoX (G : List O) (neg : Bool) : W → W → Option Bool
  | .d x, .d y => if D.dat (x.rsv G) deep && D.dat (y.rsv G) deep then some (D.eqv (x.rsv G) (y.rsv G) != neg) else none
  | _, _ => none
/-- two lists as they stand now -/
def cmoW (e : List S) (G : List O) (neg : Bool) (w v : W) : Option Bool := match rdl e G w, rdl e G v with
  | some xs, some ys => cmpop e G (if neg then .ne else .eq) (.obj (.lst xs)) (.obj (.lst ys))
  | _, _ => cmoX G neg w v
def insOf (G : List O) : D → Option (Nat × List D)
  | .obj (.ins c fs) => some (c, fs)
  | .g n => (match G[n]? with | some (.ins c fs) => some (c, fs) | _ => none)
  | _ => none
def insW (e : List S) (G : List O) (w : W) : Option (Nat × List D) := match rdO e G w with
  | some (.ins c fs) => some (c, fs)
  | _ => none
/-- what __len__ told is a length -/
def lenW : W → List S → List O → R W
  | .d (.int i), e, G => if decide (0 ≤ i) && decide (i < 2 ^ 63) then .ok (.d (.int i)) e G else .no
  | _, _, _ => .no
section
variable (cl : Call) (gl : Nat → W)
mutual
def evE : E → List S → List O → R W
  | .var i, e, G => (match e[i]? with | some (.d x) => .ok (.d x) e G | _ => .no)
  | .own i, e, G => (match e[i]? with | some (.own _) => .ok (.b i) e G | _ => .no)
  | .kI i, e, G => .ok (.d (.int i)) e G
  | .kS s, e, G => .ok (.d (.str s)) e G
  | .kB b, e, G => .ok (.d (.bl b)) e G
  | .kN, e, G => .ok (.d .non) e G
  | .glb x, e, G => .ok (gl x) e G
  | .tup es, e, G => (evEs es e G).bind fun xs e G => .ok (.d (.tup xs)) e G
  | .lst es, e, G => (evEs es e G).bind fun xs e G => .ok (.f (.lst xs)) e G
  | .dct0 t, e, G => .ok (.f (if t then .dT [] else .dK [])) e G
  | .dctK ks es, e, G => (evEs es e G).bind fun xs e G => if decide (ks.length = xs.length) && decide (ks.length ≤ 15) then .ok (.f (.dK (mergeD [] ((ks.map D.str).zip xs)))) e G else .no
  | .glo a, e, G => (evE a e G).bind fun w e G => (match w with | .f o => .ok (.d (.g G.length)) e (G ++ [o]) | _ => .no)
  | .bin op a b, e, G => (evE a e G).toD.bind fun x e G => (evE b e G).toD.bind fun y e G => toR (binop e G op x y) e G
  | .neg a, e, G => (evE a e G).toD.bind fun x e G => (match x with | .int i => .ok (.d (.int (-i))) e G | _ => .no)
  | .cmp op a b, e, G => (evE a e G).toD.bind fun x e G => (evE b e G).bind fun y e G => (match cmpW e G op x y with | some k => .ok (.d (.bl k)) e G | none => .no)
  | .cmo neg a b, e, G => (evE a e G).soft.bind fun w e G => (evE b e G).soft.bind fun v e G => (match cmoW e G neg w v with | some k => .ok (.d (.bl k)) e G | none => .no)
  | .chn o1 o2 a b c, e, G => (evE a e G).toD.bind fun x e G => (evE b e G).toD.bind fun y e G => (match cmpop e G o1 x y with
    | some true => (evE c e G).toD.bind fun z e G => (match cmpop e G o2 y z with | some k => .ok (.d (.bl k)) e G | none => .no)
    | some false => .ok (.d (.bl false)) e G
    | none => .no)
  | .not a, e, G => (evE a e G).toB.bind fun k e G => .ok (.d (.bl (!k))) e G
  | .and a b, e, G => (evE a e G).toB.bind fun k e G => if k then (evE b e G).toB.bind fun k e G => .ok (.d (.bl k)) e G else .ok (.d (.bl false)) e G
  | .or a b, e, G => (evE a e G).toB.bind fun k e G => if k then .ok (.d (.bl true)) e G else (evE b e G).toB.bind fun k e G => .ok (.d (.bl k)) e G
  | .ite c a b, e, G => (evE c e G).toB.bind fun k e G => if k then evE a e G else evE b e G
  | .ix a i, e, G => (evE a e G).soft.bind fun w e G => (evE i e G).toD.bind fun y e G => (match y with
    | .int i => (match ixop e G w i with | some x => .ok (.d x) e G | none => .no)
    | _ => .no)
  | .dix a k, e, G => (evE a e G).soft.bind fun w e G => (evE k e G).toD.bind fun y e G => (match (rdO e G w).bind fun o => rdK o y with
    | some (some x) => .ok (.d x) e G
    | _ => .no)
  | .sl a lo hi, e, G => (evE a e G).soft.bind fun w e G => (evEo lo e G).bind fun l e G => (evEo hi e G).bind fun h e G => toR (slop e G w l h) e G
  | .rev a, e, G => (evE a e G).bind fun w e G => (match rdO e G w with
    | some (.lst xs) => .ok (.f (.lst xs.reverse)) e G
    | _ => .no)
  | .fld a c k, e, G => (evE a e G).bind fun w e G => (match insW e G w with
    | some (c', fs) => if c = c' then (match fs[k]? with | some x => .ok (.d x) e G | none => .no) else .no
    | none => .no)
  | .call f es, e, G => (evEs es e G).bind fun xs e G => ofRC (cl f xs G) e
  | .mth a c f es, e, G => (evE a e G).toD.bind fun x e G => (match insOf G x with
    | some (c', _) => if c = c' then (evEs es e G).bind fun xs e G => ofRC (cl f (x :: xs) G) e else .no
    | none => .no)
  | .mk f es, e, G => (evEs es e G).bind fun xs e G => ofRC (cl f xs G) e
  | .b1 b a, e, G => (evE a e G).bind fun w e G => toR (b1op e G b w) e G
  | .b2 b x y, e, G => (evE x e G).toD.bind fun x e G => (evE y e G).toD.bind fun y e G => toR (b2op b x y) e G
  | .isi a t, e, G => (evE a e G).toD.bind fun x e G => (match isTy G t x with | some k => .ok (.d (.bl k)) e G | none => .no)
  | .mm m t es, e, G => (evE t e G).soft.bind fun w e G => if mmTy m (rdO e G w) then (evEs es e G).bind fun xs e G => mmop m e G w xs else .no
  | .lc vs elt tg it ifs, e, G => (evI it e G).bind fun sr e1 G1 => if noOwn e1 vs then (match rdS sr e1 G1 with
    | some xs => (compD (rdS sr) (fun x e G => R.quiet <| match setTg tg x e with
        | some e => (evT ifs e G).bind fun k e G => if k then (evE elt e G).toD.bind fun y e G => .ok [y] (wipeS e vs) G else .ok [] (wipeS e vs) G
        | none => .no) xs.length 0 [] (wipeS e1 vs) G1).bind fun acc e2 G2 => .ok (.f (.lst acc)) (backS e1 e2 vs) G2
    | none => .no) else .no
  | .lc2 vs elt tg it tg1 it1, e, G => (evI it e G).bind fun sr e1 G1 => if noOwn e1 vs then (match rdS sr e1 G1 with
    | some xs => (compA (rdS sr) (fun x acc e G => R.quiet <| match setTg tg x e with
        | some e => (evI it1 e G).bind fun sr1 e4 G4 => (match rdS sr1 e4 G4 with
          | some ys => (compD (rdS sr1) (fun y e G => R.quiet <| match setTg tg1 y e with
              | some e => (evE elt e G).toD.bind fun z e G => .ok [z] (wipeS e tg1.slots) G
              | none => .no) ys.length 0 acc (wipeS e4 tg1.slots) G4).bind fun acc e G => .ok acc (wipeS e vs) G
          | none => .no)
        | none => .no) xs.length 0 [] (wipeS e1 vs) G1).bind fun acc e2 G2 => .ok (.f (.lst acc)) (backS e1 e2 vs) G2
    | none => .no) else .no
  | .d1 t k v, e, G => (evE k e G).toD.bind fun x e G => (evE v e G).toD.bind fun y e G => (match wrK (emO t) x y with | some o => .ok (.f o) e G | none => .no)
  | .dc t vs kx v tg it ifs, e, G => (evI it e G).bind fun sr e1 G1 => if noOwn e1 vs then (match rdS sr e1 G1 with
    | some xs => (compK (rdS sr) (fun x e G => R.quiet <| match setTg tg x e with
        | some e => (evT ifs e G).bind fun k e G => if k then (evE kx e G).toD.bind fun y e G => (evE v e G).toD.bind fun z e G => .ok (some (y, z)) (wipeS e vs) G else .ok none (wipeS e vs) G
        | none => .no) xs.length 0 (emO t) (wipeS e1 vs) G1).bind fun o e2 G2 => .ok (.f o) (backS e1 e2 vs) G2
    | none => .no) else .no
  | .lenI a c f, e, G => (evE a e G).toD.bind fun x e G => (match insOf G x with
    | some (c', _) => if c = c' then (ofRC (cl f [x] G) e).quiet.bind fun w e G => lenW w e G else .no
    | none => .no)
  | .prop a c f, e, G => (evE a e G).toD.bind fun x e G => (match insOf G x with
    | some (c', _) => if c = c' then (ofRC (cl f [x] G) e).quiet else .no
    | none => .no)
def evEs : Es → List S → List O → R (List D)
  | .nil, e, G => .ok [] e G
  | .cons a r, e, G => (evE a e G).toD.bind fun x e G => (evEs r e G).bind fun xs e G => .ok (x :: xs) e G
  | .star a r, e, G => (evE a e G).soft.bind fun w e G => (match rdL e G w with
    | some xs => (evEs r e G).bind fun ys e G => if xs.length + ys.length ≤ 100000 then .ok (xs ++ ys) e G else .no
    | none => .no)
def evEo : Eo → List S → List O → R (Option Int)
  | .none, e, G => .ok none e G
  | .some a, e, G => (evE a e G).toD.bind fun x e G => (match x with | .int i => .ok (some i) e G | _ => .no)
def evT : Eo → List S → List O → R Bool
  | .none, e, G => .ok true e G
  | .some a, e, G => (evE a e G).toB
def evI : It → List S → List O → R Sr
  | .seq a, e, G => (evE a e G).soft.bind fun w e G => (match w with | .b _ => .no | w => if (rdI e G w).isSome then .ok (.seq w) e G else .no)
  | .ownl i, e, G => (match (e[i]? : Option S) with | some (.own (.lst _)) => .ok (.seq (.b i)) e G | _ => .no)
  | .rng a b, e, G => (evE a e G).toD.bind fun x e G => (evE b e G).toD.bind fun y e G => (match x, y with
    | .int i, .int j => if decide (-(2 ^ 62) ≤ i) && decide (i < 2 ^ 62) && decide (-(2 ^ 62) ≤ j) && decide (j < 2 ^ 62) && decide (j - i ≤ sLn) then .ok (.rng i (j - i).toNat) e G else .no
    | _, _ => .no)
  | .enum a, e, G => (evE a e G).soft.bind fun w e G => (match w with | .b _ => .no | .d (.g _) => .no | w => if (rdL e G w).isSome then .ok (.enum w) e G else .no)
  | .zip st a b, e, G => (evE a e G).soft.bind fun x e G => (evE b e G).soft.bind fun y e G => (match x, y with
    | .b _, _ => .no
    | _, .b _ => .no
    | .d (.g _), _ => .no
    | _, .d (.g _) => .no
    | x, y => (match rdL e G x, rdL e G y with
      | some xs, some ys => if st && decide (xs.length = ys.length) then .ok (.zip x y) e G else .no
      | _, _ => .no))
  | .items a, e, G => .no
  | .vals a, e, G => .no
  | .keys a, e, G => .no
end
end
/-- what a statement yields -/
inductive RS where
  | nx (e : List S) (G : List O) | bk (e : List S) (G : List O) | ct (e : List S) (G : List O)
  | rt (w : W) (e : List S) (G : List O) | ex (x : XV) (e : List S) (G : List O) | no
def R.st {α : Type} (r : R α) (f : α → List S → List O → RS) : RS := match r with
  | .ok a e G => f a e G
  | .ex x e G => .ex x e G
  | .no => .no
@[simp] theorem R.st_ok {α : Type} (a : α) (e : List S) (G : List O) (f : α → List S → List O → RS) : (R.ok a e G).st f = f a e G := nr rfl
@[simp] theorem R.st_no {α : Type} (f : α → List S → List O → RS) : (R.no : R α).st f = .no := nr rfl
def RS.seq (r : RS) (f : List S → List O → RS) : RS := match r with
  | .nx e G => f e G
  | r => r
@[simp] theorem RS.seq_nx (e : List S) (G : List O) (f : List S → List O → RS) : (RS.nx e G).seq f = f e G := nr rfl
@[simp] theorem RS.seq_rt (w : W) (e : List S) (G : List O) (f : List S → List O → RS) : (RS.rt w e G).seq f = .rt w e G := nr rfl
@[simp] theorem RS.seq_no (f : List S → List O → RS) : RS.no.seq f = .no := nr rfl
def forD (rd : List S → List O → Option (List D)) (f : D → List S → List O → RS) : Nat → Nat → List S → List O → RS
  | 0, i, e, G => (match rd e G with
    | some ys => if ys.length = i then .nx e G else .no
    | none => .no)
  | k + 1, i, e, G => (match rd e G with
    | some ys => (match ys[i]? with
      | some x => (match f x e G with
        | .nx e' G' => forD rd f k (i + 1) e' G'
        | .ct e' G' => forD rd f k (i + 1) e' G'
        | .bk e' G' => .nx e' G'
        | r => r)
      | none => .no)
    | none => .no)
def whileD (c : List S → List O → R Bool) (f : List S → List O → RS) : Nat → List S → List O → RS
  | 0, _, _ => .no
  | k + 1, e, G => (c e G).st fun b e G => if b then (match f e G with
      | .nx e' G' => whileD c f k e' G'
      | .ct e' G' => whileD c f k e' G'
      | .bk e' G' => .nx e' G'
      | r => r) else .nx e G
def stD (i : Nat) (s : S) (e : List S) (G : List O) : RS := if canSet e i then .nx (e.set i s) G else .no
def ownW : W → Option S
  | .f o => some (.own o)
  | _ => none
def frzS : S → Option S
  | .own (.ins _ _) => none
  | .own o => some (.d (.obj o))
  | _ => none
def putF (fs : List D) (k : Nat) (x : D) : Option (List D) := if k < fs.length then some (fs.set k x) else if k = fs.length then some (fs ++ [x]) else none
section
variable (cl : Call) (gl : Nat → W) (N : Nat)
mutual
def evC : C → List S → List O → RS
  | .asg tg a, e, G => (evE cl gl a e G).toD.st fun x e G => (match setTg tg x e with | some e => .nx e G | none => .no)
  | .asgO i a, e, G => (evE cl gl a e G).st fun w e G => (match ownW w with | some s => stD i s e G | none => .no)
  | .par i j oj a b, e, G => (evE cl gl a e G).toD.st fun x e G => if oj then (evE cl gl b e G).st fun w e G => (match ownW w with
      | some z => if canSet e i && canSet (e.set i (.d x)) j then .nx ((e.set i (.d x)).set j z) G else .no
      | none => .no)
    else (evE cl gl b e G).toD.st fun y e G => if canSet e i && canSet (e.set i (.d x)) j then .nx ((e.set i (.d x)).set j (.d y)) G else .no
  | .parF i j oj a b, e, G => (evE cl gl a e G).st fun w e G => (match w with
    | .f o => if oj then (evE cl gl b e G).st fun v e G => (match v with
        | .f z => if canSet e i && canSet (e.set i (.own o)) j then .nx ((e.set i (.own o)).set j (.own z)) G else .no
        | _ => .no)
      else (evE cl gl b e G).toD.st fun y e G => if canSet e i && canSet (e.set i (.own o)) j then .nx ((e.set i (.own o)).set j (.d y)) G else .no
    | _ => .no)
  | .aug i op a, e, G => (match e[i]? with
    | some (.d x) => (evE cl gl a e G).toD.st fun y e G => (toR (binop e G op x y) e G).toD.st fun z e G => stD i (.d z) e G
    | _ => .no)
  | .seto t i v, e, G => (evE cl gl v e G).toD.st fun x e G => (evE cl gl t e G).soft.st fun w e G => (evE cl gl i e G).toD.st fun y e G => (match rdO e G w with
    | some (.lst xs) => (match y with
      | .int i => (match ixN xs.length i with
        | some k => (match upO e G w (.lst (xs.set k x)) with | some (e, G) => .nx e G | none => .no)
        | none => .no)
      | _ => .no)
    | some o => (match wrK o y x with
      | some o' => (match upO e G w o' with | some (e, G) => .nx e G | none => .no)
      | none => .no)
    | none => .no)
  | .setf t c k v, e, G => (evE cl gl v e G).toD.st fun x e G => (evE cl gl t e G).soft.st fun w e G => (match insW e G w with
    | some (c', fs) => if c = c' then (match putF fs k x with
      | some fs' => (match upO e G w (.ins c fs') with | some (e, G) => .nx e G | none => .no)
      | none => .no) else .no
    | none => .no)
  | .ex a, e, G => (evE cl gl a e G).st fun _ e G => .nx e G
  | .ret a, e, G => (evE cl gl a e G).st fun w e G => (match w with
    | .b _ => .no
    | .k _ => .no
    | w => .rt w e G)
  | .retO i, e, G => (match (e[i]? : Option S) with | some (S.own o) => if canSet e i then .rt (.f o) (e.set i .un) G else .no | _ => .no)
  | .retN, e, G => .rt (.d .non) e G
  | .if_ c a b, e, G => (evE cl gl c e G).toB.st fun k e G => if k then evCs a e G else evCs b e G
  | .for_ tg it body, e, G => (evI cl gl it e G).st fun sr e G => (match rdS sr e G with
    | some xs => forD (rdS sr) (fun x e G => match setTg tg x e with | some e => evCs body e G | none => .no) xs.length 0 e G
    | none => .no)
  | .while_ c body, e, G => whileD (fun e G => (evE cl gl c e G).toB) (fun e G => evCs body e G) N e G
  | .pas, e, G => .nx e G
  | .brk, e, G => .bk e G
  | .cnt, e, G => .ct e G
  | .frz i, e, G => (match e[i]?.bind frzS with | some s => .nx (e.set i s) G | none => .no)
  | .rais c es, e, G => .no
def evCs : Cs → List S → List O → RS
  | .nil, e, G => .nx e G
  | .cons a r, e, G => (evC a e G).seq fun e G => evCs r e G
end
end
/-- a def: its parameters, its slots, whose __init__ it is, its body -/
structure MF where
  np : Nat
  ns : Nat
  ini : Option Nat
  body : Cs
def MF.e0 (m : MF) (ds : List D) : List S := match m.ini with
  | none => ds.map .d ++ List.replicate (m.ns - m.np) .un
  | some c => .own (.ins c []) :: (ds.map .d ++ List.replicate (m.ns - m.np - 1) .un)
def MF.fin (m : MF) (w : W) (e : List S) (G : List O) : RC := match m.ini with
  | none => (match w with
    | .d x => .ok (.d x) G
    | .f o => .ok (.f o) G
    | _ => .no)
  | some _ => (match w with
    | .d .non => (match (e[0]? : Option S) with | some (S.own o) => .ok (.f o) G | _ => .no)
    | _ => .no)
def MF.out (m : MF) : RS → RC
  | .nx e G => m.fin (.d .non) e G
  | .rt w e G => m.fin w e G
  | .ex x _ G => .ex x G
  | _ => .no
def runF (fns : List MF) (gl : Nat → W) (N : Nat) : Nat → Call
  | 0 => fun _ _ _ => .no
  | n + 1 => fun f ds G => match fns[f]? with
    | some m => if ds.length = m.np then m.out (evCs (runF fns gl N n) gl N m.body (m.e0 ds) G) else .no
    | none => .no
end Mn
/-! Mn3: how data stand in the machine. -/
namespace Mn
open PySem PySem.Spec PyProof.Rows L2
/-- the machine's side of the tables: the classes' addresses, their fields; the errors' classes and fields; the defs' addresses -/
structure Tb where
  K : PySem.W.Frag
  ca : Nat → Addr
  fl : Nat → List Str
  xa : Nat → Addr
  xf : Nat → List Str
  fa : Nat → Addr
structure Wd where
  F : Hp
  r : List Addr
  an : Option Addr
mutual
def Den (T : Tb) (m : Wd) : D → V → Prop
  | .non, v => v = .non
  | .bl b, v => v = .bl b
  | .int i, v => v = .int i
  | .str s, v => v = .str s
  | .tup ds, v => ∃ p xs, v = .ref p ∧ m.F p = some (.tup xs) ∧ DenL T m ds xs
  | .obj o, v => ∃ p, v = .ref p ∧ DenO T m m.F true o p
  | .g n, v => ∃ p, v = .ref p ∧ m.r[n]? = some p
  | .scr ns, v => ∃ p, v = .ref p ∧ SqL T.K m.F p (ns.map V.int)
termination_by structural d => d
def DenO (T : Tb) (m : Wd) (Hx : Hp) (fz : Bool) : O → Addr → Prop
  | .lst ds, p => ∃ xs, (Hx p = some (.lst xs) ∨ (fz = true ∧ ∃ ob, Hx p = some (.frz ob (.lst xs)))) ∧ DenL T m ds xs
  | .dK kvs, p => ∃ ys, Hx p = some (.dK ys) ∧ DenK T m kvs ys
  | .dT kvs, p => ∃ ys, Hx p = some (.dT ys) ∧ DenT T m kvs ys
  | .ins c ds, p => ∃ dx xs, Hx p = some (.ins (T.ca c) dx ((T.fl c).zip xs)) ∧ xs.length ≤ (T.fl c).length ∧ DenL T m ds xs
termination_by structural d => d
def DenL (T : Tb) (m : Wd) : List D → List V → Prop
  | [], xs => xs = []
  | d :: ds, xs => ∃ v vs, xs = v :: vs ∧ Den T m d v ∧ DenL T m ds vs
termination_by structural d => d
def DenK (T : Tb) (m : Wd) : List (D × D) → List (Key × V) → Prop
  | [], xs => xs = []
  | d :: ds, xs => ∃ v vs, xs = v :: vs ∧ DenP T m d v ∧ DenK T m ds vs
termination_by structural d => d
def DenP (T : Tb) (m : Wd) : (D × D) → (Key × V) → Prop
  | (a, d), q => Den T m a (kV q.1) ∧ Den T m d q.2
termination_by structural d => d
def DenT (T : Tb) (m : Wd) : List (D × D) → List (List Key × V) → Prop
  | [], xs => xs = []
  | d :: ds, xs => ∃ v vs, xs = v :: vs ∧ DenQ T m d v ∧ DenT T m ds vs
termination_by structural d => d
def DenQ (T : Tb) (m : Wd) : (D × D) → (List Key × V) → Prop
  | (.tup ds, d), q => DenL T m ds (q.1.map kV) ∧ Den T m d q.2
  | _, _ => False
termination_by structural d => d
end
def Wd.sub (a b : Wd) : Prop := (∀ p o, a.F p = some o → b.F p = some o) ∧ ∀ (n : Nat) (p : Addr), a.r[n]? = some p → b.r[n]? = some p
def Wd.le (a b : Wd) : Prop := a.sub b ∧ b.an = a.an
theorem Wd.le.refl (a : Wd) : a.le a := ⟨⟨fun _ _ h => h, fun _ _ h => h⟩, rfl⟩
theorem Wd.le.trans {a b c : Wd} (h : a.le b) (k : b.le c) : a.le c := ⟨⟨fun p o q => k.1.1 p o (h.1.1 p o q), fun n p q => k.1.2 n p (h.1.2 n p q)⟩, k.2.trans h.2⟩
theorem sqL_mono {K : PySem.W.Frag} {F F' : Hp} {p : Addr} {xs : List V} (h : ∀ p o, F p = some o → F' p = some o) (q : SqL K F p xs) : SqL K F' p xs := by
  rcases q with (q | ⟨o, q⟩) | q
  · exact .inl (.inl (h _ _ q))
  · exact .inl (.inr ⟨o, h _ _ q⟩)
  · exact .inr q
mutual
theorem Den.subm {T : Tb} {m m' : Wd} (h : m.sub m') : ∀ (d : D) (v : V), Den T m d v → Den T m' d v
  | .non, v, q => q
  | .bl _, v, q => q
  | .int _, v, q => q
  | .str _, v, q => q
  | .tup ds, v, ⟨p, xs, e, f, l⟩ => ⟨p, xs, e, h.1 _ _ f, DenL.subm h ds xs l⟩
  | .obj o, v, ⟨p, e, q⟩ => ⟨p, e, DenO.subm h h.1 o p q⟩
  | .g n, v, ⟨p, e, q⟩ => ⟨p, e, h.2 _ _ q⟩
  | .scr ns, v, ⟨p, e, q⟩ => ⟨p, e, sqL_mono h.1 q⟩
termination_by structural d => d
theorem DenO.subm {T : Tb} {m m' : Wd} {Hx Hy : Hp} {fz : Bool} (h : m.sub m') (hx : ∀ p o, Hx p = some o → Hy p = some o) : ∀ (o : O) (p : Addr), DenO T m Hx fz o p → DenO T m' Hy fz o p
  | .lst ds, p, ⟨xs, q, l⟩ => ⟨xs, q.elim (fun q => .inl (hx _ _ q)) (fun ⟨e, ob, q⟩ => .inr ⟨e, ob, hx _ _ q⟩), DenL.subm h ds xs l⟩
  | .dK kvs, p, ⟨ys, q, l⟩ => ⟨ys, hx _ _ q, DenK.subm h kvs ys l⟩
  | .dT kvs, p, ⟨ys, q, l⟩ => ⟨ys, hx _ _ q, DenT.subm h kvs ys l⟩
  | .ins c ds, p, ⟨dx, xs, q, z, l⟩ => ⟨dx, xs, hx _ _ q, z, DenL.subm h ds xs l⟩
termination_by structural d => d
theorem DenL.subm {T : Tb} {m m' : Wd} (h : m.sub m') : ∀ (d : List D) (v : List V), DenL T m d v → DenL T m' d v
  | [], v, q => q
  | d :: ds, v, ⟨x, xs, e, a, b⟩ => ⟨x, xs, e, Den.subm h d x a, DenL.subm h ds xs b⟩
termination_by structural d => d
theorem DenK.subm {T : Tb} {m m' : Wd} (h : m.sub m') : ∀ (d : List (D × D)) (v : List (Key × V)), DenK T m d v → DenK T m' d v
  | [], v, q => q
  | d :: ds, v, ⟨x, xs, e, a, b⟩ => ⟨x, xs, e, DenP.subm h d x a, DenK.subm h ds xs b⟩
termination_by structural d => d
theorem DenP.subm {T : Tb} {m m' : Wd} (h : m.sub m') : ∀ (d : D × D) (v : Key × V), DenP T m d v → DenP T m' d v
  | (a, d), v, ⟨x, y⟩ => ⟨Den.subm h a _ x, Den.subm h d _ y⟩
termination_by structural d => d
theorem DenT.subm {T : Tb} {m m' : Wd} (h : m.sub m') : ∀ (d : List (D × D)) (v : List (List Key × V)), DenT T m d v → DenT T m' d v
  | [], v, q => q
  | d :: ds, v, ⟨x, xs, e, a, b⟩ => ⟨x, xs, e, DenQ.subm h d x a, DenT.subm h ds xs b⟩
termination_by structural d => d
theorem DenQ.subm {T : Tb} {m m' : Wd} (h : m.sub m') : ∀ (d : D × D) (v : List Key × V), DenQ T m d v → DenQ T m' d v
  | (.tup ds, d), v, ⟨x, y⟩ => ⟨DenL.subm h ds _ x, Den.subm h d _ y⟩
  | (.non, d), v, q => q.elim
  | (.bl _, d), v, q => q.elim
  | (.int _, d), v, q => q.elim
  | (.str _, d), v, q => q.elim
  | (.obj _, d), v, q => q.elim
  | (.g _, d), v, q => q.elim
  | (.scr _, d), v, q => q.elim
termination_by structural d => d
end
theorem Den.mono {T : Tb} {m m' : Wd} (h : m.le m') (d : D) (v : V) : Den T m d v → Den T m' d v := Den.subm h.1 d v
theorem DenO.mono {T : Tb} {m m' : Wd} {Hx Hy : Hp} {fz : Bool} (h : m.le m') (hx : ∀ p o, Hx p = some o → Hy p = some o) (o : O) (p : Addr) : DenO T m Hx fz o p → DenO T m' Hy fz o p := DenO.subm h.1 hx o p
theorem DenL.mono {T : Tb} {m m' : Wd} (h : m.le m') (d : List D) (v : List V) : DenL T m d v → DenL T m' d v := DenL.subm h.1 d v
theorem DenK.mono {T : Tb} {m m' : Wd} (h : m.le m') (d : List (D × D)) (v : List (Key × V)) : DenK T m d v → DenK T m' d v := DenK.subm h.1 d v
theorem DenT.mono {T : Tb} {m m' : Wd} (h : m.le m') (d : List (D × D)) (v : List (List Key × V)) : DenT T m d v → DenT T m' d v := DenT.subm h.1 d v
/-! ### lists of data -/
section
variable {T : Tb} {m : Wd}
theorem DenL.length : ∀ {ds : List D} {xs : List V}, DenL T m ds xs → ds.length = xs.length
  | [], _, h => by
    have e : _ = [] := h
    rw [e] <;> rfl
  | d :: ds, xs, ⟨v, vs, e, _, l⟩ => by rw [e, List.length_cons, List.length_cons, DenL.length l]
theorem DenL.get : ∀ {ds : List D} {xs : List V} {i : Nat} {d : D}, DenL T m ds xs → ds[i]? = some d → ∃ v, xs[i]? = some v ∧ Den T m d v
  | [], _, _, _, _, e => by simp at e
  | d :: ds, xs, 0, x, ⟨v, vs, e, a, l⟩, q => by
    simp at q
    subst q e
    exact ⟨v, rfl, a⟩
  | d :: ds, xs, i + 1, x, ⟨v, vs, e, a, l⟩, q => by
    subst e
    obtain ⟨u, h1, h2⟩ := DenL.get (i := i) l (by simpa using q)
    exact ⟨u, by simpa using h1, h2⟩
theorem DenL.getV : ∀ {ds : List D} {xs : List V} {i : Nat} {v : V}, DenL T m ds xs → xs[i]? = some v → ∃ d, ds[i]? = some d ∧ Den T m d v := fun {ds xs i v} l e => by
  have hl := l.length
  obtain ⟨hi, e'⟩ := List.getElem?_eq_some_iff.mp e
  have hd : ds[i]? = some (ds[i]'(by omega)) := by simp [show i < ds.length by omega]
  obtain ⟨u, h1, h2⟩ := l.get hd
  rw [e] at h1
  cases h1
  exact ⟨_, hd, h2⟩
theorem DenL.append : ∀ {ds es : List D} {xs ys : List V}, DenL T m ds xs → DenL T m es ys → DenL T m (ds ++ es) (xs ++ ys)
  | [], _, xs, _, h, k => by
    have e : xs = [] := h
    subst e
    exact k
  | d :: ds, es, xs, ys, ⟨v, vs, e, a, l⟩, k => by
    subst e
    exact ⟨v, vs ++ ys, rfl, a, DenL.append l k⟩
theorem DenL.one {d : D} {v : V} (h : Den T m d v) : DenL T m [d] [v] := ⟨v, [], rfl, h, rfl⟩
theorem DenL.take : ∀ {ds : List D} {xs : List V} (n : Nat), DenL T m ds xs → DenL T m (ds.take n) (xs.take n)
  | ds, xs, 0, h => by simp only [List.take_zero]; exact rfl
  | [], xs, n + 1, h => by
    have e : xs = [] := h
    subst e
    exact rfl
  | d :: ds, xs, n + 1, ⟨v, vs, e, a, l⟩ => by
    subst e
    exact ⟨v, vs.take n, rfl, a, DenL.take n l⟩
theorem DenL.drop : ∀ {ds : List D} {xs : List V} (n : Nat), DenL T m ds xs → DenL T m (ds.drop n) (xs.drop n)
  | ds, xs, 0, h => by simp only [List.drop_zero]; exact h
  | [], xs, n + 1, h => by
    have e : xs = [] := h
    subst e
    exact rfl
  | d :: ds, xs, n + 1, ⟨v, vs, e, a, l⟩ => by
    subst e
    exact DenL.drop n l
theorem DenL.set : ∀ {ds : List D} {xs : List V} {d : D} {v : V} (i : Nat), DenL T m ds xs → Den T m d v → DenL T m (ds.set i d) (xs.set i v)
  | [], xs, d, v, i, h, k => by
    have e : xs = [] := h
    subst e
    exact rfl
  | _ :: ds, xs, d, v, 0, ⟨u, vs, e, a, l⟩, k => by
    subst e
    exact ⟨v, vs, rfl, k, l⟩
  | _ :: ds, xs, d, v, i + 1, ⟨u, vs, e, a, l⟩, k => by
    subst e
    exact ⟨u, vs.set i v, rfl, a, DenL.set i l k⟩
theorem DenL.dropLast {ds : List D} {xs : List V} (h : DenL T m ds xs) : DenL T m ds.dropLast xs.dropLast := by
  rw [List.dropLast_eq_take, List.dropLast_eq_take, h.length]
  exact h.take _
theorem DenL.eraseIdx {ds : List D} {xs : List V} (i : Nat) (h : DenL T m ds xs) : DenL T m (ds.eraseIdx i) (xs.eraseIdx i) := by
  rw [List.eraseIdx_eq_take_drop_succ, List.eraseIdx_eq_take_drop_succ]
  exact (h.take _).append (h.drop _)
theorem DenL.reverse : ∀ {ds : List D} {xs : List V}, DenL T m ds xs → DenL T m ds.reverse xs.reverse
  | [], xs, h => by
    have e : xs = [] := h
    subst e
    exact rfl
  | d :: ds, xs, ⟨v, vs, e, a, l⟩ => by
    subst e
    rw [List.reverse_cons, List.reverse_cons]
    exact (DenL.reverse l).append (DenL.one a)
end
/-! ### the state -/
structure RlG (T : Tb) (Rs : Hp) (m : Wd) (G : List O) (H : Hp) : Prop where
  fz : ∀ p o, m.F p = some o → H p = some o
  rs : ∀ p o, Rs p = some o → H p = some o ∧ m.F p = none ∧ p ∉ m.r ∧ ∀ xs, o ≠ .tup xs
  gl : m.r.length = G.length
  gi : m.r.Nodup
  g : ∀ (n : Nat) (p : Addr) (o : O), m.r[n]? = some p → G[n]? = some o → m.F p = none ∧ DenO T m H false o p
structure RlS (T : Tb) (Rs : Hp) (m : Wd) (e : List S) (σ : L2.St) (H : Hp) : Prop where
  len : σ.length = e.length
  d : ∀ (i : Nat) (x : D), e[i]? = some (.d x) → ∃ v, σ[i]? = some (some v) ∧ Den T m x v
  o : ∀ (i : Nat) (o : O), e[i]? = some (.own o) → ∃ p, σ[i]? = some (some (.ref p)) ∧ m.F p = none ∧ Rs p = none ∧ p ∉ m.r ∧ DenO T m H false o p
  an : ∀ p, m.an = some p → σ[0]? = some (some (.ref p)) ∧ ∃ c fs, e[0]? = some (.own (.ins c fs))
  oi : ∀ (i j : Nat) (p : Addr) (a b : O), e[i]? = some (.own a) → e[j]? = some (.own b) → σ[i]? = some (some (.ref p)) → σ[j]? = some (some (.ref p)) → i = j
def DenW (T : Tb) (Rs : Hp) (m : Wd) (e : List S) (σ : L2.St) (H : Hp) : W → V → Prop
  | .d x, v => Den T m x v
  | .f o, v => ∃ p, v = .ref p ∧ m.F p = none ∧ Rs p = none ∧ p ∉ m.r ∧ (∀ (i : Nat) (q : O), e[i]? = some (.own q) → σ[i]? ≠ some (some (.ref p))) ∧ DenO T m H false o p
  | .b i, v => σ[i]? = some (some v)
  | .k ds, v => ∃ p xs, v = .ref p ∧ SqT T.K (fun _ => none) p xs ∧ DenL T m ds xs
theorem DenO.there {T : Tb} {m : Wd} {H : Hp} {fz : Bool} {o : O} {p : Addr} (h : DenO T m H fz o p) : H p ≠ none := by
  cases o with
  | lst ds =>
    obtain ⟨xs, q, _⟩ := h
    rcases q with q | ⟨_, ob, q⟩ <;> (rw [q]; intro z; cases z)
  | dK kvs => obtain ⟨xs, q, _⟩ := h; rw [q]; intro z; cases z
  | dT kvs => obtain ⟨xs, q, _⟩ := h; rw [q]; intro z; cases z
  | ins c ds => obtain ⟨dx, xs, q, _⟩ := h; rw [q]; intro z; cases z
/-- an object's place alone counts -/
theorem DenO.at {T : Tb} {m : Wd} {H H' : Hp} {fz : Bool} {o : O} {p : Addr} (h : DenO T m H fz o p) (e : H' p = H p) : DenO T m H' fz o p := by
  cases o with
  | lst ds => obtain ⟨xs, q, l⟩ := h; exact ⟨xs, by rw [e]; exact q, l⟩
  | dK kvs => obtain ⟨xs, q, l⟩ := h; exact ⟨xs, by rw [e]; exact q, l⟩
  | dT kvs => obtain ⟨xs, q, l⟩ := h; exact ⟨xs, by rw [e]; exact q, l⟩
  | ins c ds => obtain ⟨dx, xs, q, l⟩ := h; exact ⟨dx, xs, by rw [e]; exact q, l⟩
section
variable {T : Tb} {Rs : Hp} {m : Wd} {G : List O} {e : List S} {σ : L2.St} {H : Hp}
theorem RlG.freeF (g : RlG T Rs m G H) {p : Addr} (h : H p = none) : m.F p = none := by
  cases q : m.F p with
  | none => rfl
  | some o => rw [g.fz p o q] at h; cases h
theorem RlG.freeR (g : RlG T Rs m G H) {p : Addr} (h : H p = none) : Rs p = none := by
  cases q : Rs p with
  | none => rfl
  | some o => rw [(g.rs p o q).1] at h; cases h
theorem RlG.ofMem (g : RlG T Rs m G H) {p : Addr} (hp : p ∈ m.r) : ∃ (n : Nat) (o : O), m.r[n]? = some p ∧ G[n]? = some o ∧ m.F p = none ∧ DenO T m H false o p := by
  obtain ⟨n, hn, e⟩ := List.getElem_of_mem hp
  have h1 : m.r[n]? = some p := by rw [List.getElem?_eq_getElem hn, e]
  have h2 : G[n]? = some (G[n]'(by rw [← g.gl]; exact hn)) := List.getElem?_eq_getElem _
  obtain ⟨h3, h4⟩ := g.g n p _ h1 h2
  exact ⟨n, _, h1, h2, h3, h4⟩
theorem RlG.freeG (g : RlG T Rs m G H) {p : Addr} (h : H p = none) : p ∉ m.r := fun hp => by
  obtain ⟨n, o, _, _, _, q⟩ := g.ofMem hp
  exact q.there h
theorem RlS.freeO (s : RlS T Rs m e σ H) {p : Addr} (h : H p = none) : ∀ (i : Nat) (q : O), e[i]? = some (.own q) → σ[i]? ≠ some (some (.ref p)) := fun i q hq z => by
  obtain ⟨p', h1, _, _, _, h5⟩ := s.o i q hq
  rw [h1] at z
  cases z
  exact h5.there h
/-- the heap grows: what stands elsewhere is kept -/
theorem RlG.keep (g : RlG T Rs m G H) {H' : Hp} (k : ∀ p o, H p = some o → H' p = some o) : RlG T Rs m G H' where
  fz := fun p o q => k p o (g.fz p o q)
  rs := fun p o q => ⟨k p o (g.rs p o q).1, (g.rs p o q).2⟩
  gl := g.gl
  gi := g.gi
  g := fun n p o h1 h2 => ⟨(g.g n p o h1 h2).1, DenO.mono (Wd.le.refl m) k o p (g.g n p o h1 h2).2⟩
theorem RlS.keep (s : RlS T Rs m e σ H) {H' : Hp} (k : ∀ p o, H p = some o → H' p = some o) : RlS T Rs m e σ H' where
  len := s.len
  d := s.d
  o := fun i o h => by
    obtain ⟨p, h1, h2, h3, h4, h5⟩ := s.o i o h
    exact ⟨p, h1, h2, h3, h4, DenO.mono (Wd.le.refl m) k o p h5⟩
  an := s.an
  oi := s.oi
/-- new frozen objects -/
theorem RlS.more (s : RlS T Rs m e σ H) {m' : Wd} (h : m.le m') (hf : ∀ (i : Nat) (o : O) (p : Addr), e[i]? = some (.own o) → σ[i]? = some (some (.ref p)) → m'.F p = none ∧ p ∉ m'.r) : RlS T Rs m' e σ H where
  len := s.len
  d := fun i x q => by
    obtain ⟨v, h1, h2⟩ := s.d i x q
    exact ⟨v, h1, Den.mono h x v h2⟩
  o := fun i o q => by
    obtain ⟨p, h1, h2, h3, h4, h5⟩ := s.o i o q
    obtain ⟨k1, k2⟩ := hf i o p q h1
    exact ⟨p, h1, k1, h3, k2, DenO.mono h (fun _ _ z => z) o p h5⟩
  an := fun p hp => s.an p (by rw [← h.2]; exact hp)
  oi := s.oi
/-- the world with p frozen as it stands -/
def Wd.frz (m : Wd) (H : Hp) (p : Addr) : Wd := ⟨fun q => if q = p then H p else m.F q, m.r, m.an⟩
theorem Wd.frz_le {m : Wd} {H : Hp} {p : Addr} (h : m.F p = none) : m.le (m.frz H p) := ⟨⟨fun q o z => by
    have ne : q ≠ p := fun y => by rw [y, h] at z; cases z
    show (if q = p then H p else m.F q) = some o
    rw [if_neg ne]
    exact z, fun _ _ z => z⟩, rfl⟩
theorem Wd.frz_at {m : Wd} {H : Hp} {p : Addr} : (m.frz H p).F p = H p := if_pos rfl
theorem Wd.frz_ne {m : Wd} {H : Hp} {p q : Addr} (h : q ≠ p) : (m.frz H p).F q = m.F q := if_neg h
theorem RlG.frz (g : RlG T Rs m G H) {p : Addr} (h1 : m.F p = none) (h2 : Rs p = none) (h3 : p ∉ m.r) : RlG T Rs (m.frz H p) G H where
  fz := fun q o z => by
    by_cases y : q = p
    · rw [y, Wd.frz_at] at z
      rw [y]
      exact z
    · rw [Wd.frz_ne y] at z
      exact g.fz q o z
  rs := fun q o z => by
    have ne : q ≠ p := fun y => by rw [y, h2] at z; cases z
    refine ⟨(g.rs q o z).1, ?_, (g.rs q o z).2.2⟩
    rw [Wd.frz_ne ne]
    exact (g.rs q o z).2.1
  gl := g.gl
  gi := g.gi
  g := fun n q o z1 z2 => by
    have ne : q ≠ p := fun y => h3 (by rw [← y]; exact List.mem_of_getElem? z1)
    refine ⟨?_, DenO.mono (Wd.frz_le h1) (fun _ _ z => z) o q (g.g n q o z1 z2).2⟩
    rw [Wd.frz_ne ne]
    exact (g.g n q o z1 z2).1
theorem DenO.toF {o : O} {p : Addr} (h : DenO T m H false o p) (h1 : m.F p = none) : DenO T (m.frz H p) (m.frz H p).F true o p := by
  have k : DenO T (m.frz H p) H true o p := by
    have q := DenO.mono (T := T) (Hx := H) (Hy := H) (fz := false) (Wd.frz_le (H := H) h1) (fun _ _ z => z) o p h
    cases o with
    | lst ds =>
      obtain ⟨xs, y, l⟩ := q
      rcases y with y | ⟨y, _⟩
      · exact ⟨xs, .inl y, l⟩
      · cases y
    | dK kvs => exact q
    | dT kvs => exact q
    | ins c ds => exact q
  exact k.at Wd.frz_at
end
end Mn
/-! Mn4: data as the library's data. -/
namespace Mn
open PySem PySem.Spec PyProof.Rows L2
mutual
def D.toP : D → PyData
  | .non => .none
  | .bl b => .bool b
  | .int i => .int i
  | .str s => .str s
  | .tup xs => .tuple (D.toPL xs)
  | .obj o => O.toP o
  | .g _ => .none
  | .scr _ => .none
termination_by structural d => d
def O.toP : O → PyData
  | .lst xs => .list (D.toPL xs)
  | _ => .none
termination_by structural d => d
def D.toPL : List D → List PyData
  | [] => []
  | x :: xs => D.toP x :: D.toPL xs
termination_by structural d => d
end
theorem toPL_map : ∀ xs : List D, D.toPL xs = xs.map D.toP
  | [] => rfl
  | x :: xs => by
    show D.toP x :: D.toPL xs = _
    rw [toPL_map xs]
    rfl
mutual
theorem dat_plain : ∀ (d : D) (n : Nat), d.dat n = true → d.toP.plain = true ∧ d.toP.depth ≤ n
  | .non, n, _ => ⟨rfl, Nat.zero_le _⟩
  | .bl _, n, _ => ⟨rfl, Nat.zero_le _⟩
  | .int _, n, _ => ⟨rfl, Nat.zero_le _⟩
  | .str _, n, _ => ⟨rfl, Nat.zero_le _⟩
  | .tup xs, 0, h => by cases h
  | .tup xs, n + 1, h => by
    obtain ⟨h1, h2⟩ := datL_plain xs n h
    exact ⟨h1, Nat.succ_le_succ h2⟩
  | .obj o, n, h => datO_plain o n h
  | .g _, n, h => by cases h
  | .scr _, n, h => by cases h
termination_by structural d => d
theorem datO_plain : ∀ (o : O) (n : Nat), o.dat n = true → o.toP.plain = true ∧ o.toP.depth ≤ n
  | .lst xs, 0, h => by cases h
  | .lst xs, n + 1, h => by
    obtain ⟨h1, h2⟩ := datL_plain xs n h
    exact ⟨h1, Nat.succ_le_succ h2⟩
  | .dK _, n, h => by cases h
  | .dT _, n, h => by cases h
  | .ins _ _, n, h => by cases h
termination_by structural d => d
theorem datL_plain : ∀ (xs : List D) (n : Nat), D.datL xs n = true → PyData.plainAll (D.toPL xs) = true ∧ PyData.depthAll (D.toPL xs) ≤ n
  | [], n, _ => ⟨rfl, Nat.zero_le _⟩
  | x :: xs, n, h => by
    obtain ⟨ha, hb⟩ := Bool.and_eq_true_iff.mp (show (x.dat n && D.datL xs n) = true from h)
    obtain ⟨h1, h2⟩ := dat_plain x n ha
    obtain ⟨h3, h4⟩ := datL_plain xs n hb
    refine ⟨?_, ?_⟩
    · show (PyData.plain x.toP && PyData.plainAll (D.toPL xs)) = true
      rw [h1, h3]
      rfl
    · show max x.toP.depth (PyData.depthAll (D.toPL xs)) ≤ n
      exact Nat.max_le.mpr ⟨h2, h4⟩
termination_by structural d => d
end
mutual
theorem Den.dp {T : Tb} {m : Wd} {H : Hp} (k : ∀ p o, m.F p = some o → H p = some o) : ∀ (d : D) (n : Nat) (v : V), d.dat n = true → Den T m d v → Dp T.K H v d.toP
  | .non, n, v, _, h => by
    have e : v = .non := h
    rw [e]; exact .non
  | .bl b, n, v, _, h => by
    have e : v = .bl b := h
    rw [e]; exact .bl b
  | .int b, n, v, _, h => by
    have e : v = .int b := h
    rw [e]; exact .int b
  | .str b, n, v, _, h => by
    have e : v = .str b := h
    rw [e]; exact .str b
  | .tup ds, 0, v, hd, _ => by cases hd
  | .tup ds, n + 1, v, hd, ⟨p, xs, e, hp, l⟩ => by
    rw [e]
    exact .tup (.inl (.inl (k _ _ hp))) (DenL.dp k ds n xs hd l)
  | .obj o, n, v, hd, ⟨p, e, q⟩ => by
    rw [e]
    exact DenO.dp k o n p hd q
  | .g _, n, v, hd, _ => by cases hd
  | .scr _, n, v, hd, _ => by cases hd
termination_by structural d => d
theorem DenO.dp {T : Tb} {m : Wd} {H : Hp} (k : ∀ p o, m.F p = some o → H p = some o) : ∀ (o : O) (n : Nat) (p : Addr), o.dat n = true → DenO T m m.F true o p → Dp T.K H (.ref p) o.toP
  | .lst ds, 0, p, hd, _ => by cases hd
  | .lst ds, n + 1, p, hd, ⟨xs, hp, l⟩ => by
    refine .lst (xs := xs) (.inl ?_) (DenL.dp k ds n xs hd l)
    rcases hp with hp | ⟨_, ob, hp⟩
    · exact .inl (k _ _ hp)
    · exact .inr ⟨ob, k _ _ hp⟩
  | .dK _, n, p, hd, _ => by cases hd
  | .dT _, n, p, hd, _ => by cases hd
  | .ins _ _, n, p, hd, _ => by cases hd
termination_by structural d => d
theorem DenL.dp {T : Tb} {m : Wd} {H : Hp} (k : ∀ p o, m.F p = some o → H p = some o) : ∀ (ds : List D) (n : Nat) (vs : List V), D.datL ds n = true → DenL T m ds vs → DpAll T.K H vs (D.toPL ds)
  | [], n, vs, _, h => by
    have e : vs = [] := h
    rw [e]; exact .nil
  | d :: ds, n, vs, hd, ⟨v, ws, e, a, l⟩ => by
    obtain ⟨ha, hb⟩ := Bool.and_eq_true_iff.mp (show (d.dat n && D.datL ds n) = true from hd)
    rw [e]
    exact .cons (Den.dp k d n v ha a) (DenL.dp k ds n ws hb l)
termination_by structural d => d
end
mutual
theorem eqv_toP : ∀ (a b : D) (n k : Nat), a.dat n = true → b.dat k = true → D.eqv a b = PyData.eqv a.toP b.toP
  | .non, b, n, k, _, hb => by
    cases b with
    | obj o => cases o <;> first | (cases k <;> rfl) | (cases hb)
    | g _ => cases hb
    | scr _ => cases hb
    | _ => rfl
  | .bl x, b, n, k, _, hb => by
    cases b with
    | obj o => cases o <;> first | (cases k <;> rfl) | (cases hb)
    | g _ => cases hb
    | scr _ => cases hb
    | _ => rfl
  | .int x, b, n, k, _, hb => by
    cases b with
    | obj o => cases o <;> first | (cases k <;> rfl) | (cases hb)
    | g _ => cases hb
    | scr _ => cases hb
    | _ => rfl
  | .str x, b, n, k, _, hb => by
    cases b with
    | obj o => cases o <;> first | (cases k <;> rfl) | (cases hb)
    | g _ => cases hb
    | scr _ => cases hb
    | _ => rfl
  | .tup xs, b, 0, k, ha, hb => by cases ha
  | .tup xs, b, n + 1, k, ha, hb => by
    cases b with
    | tup ys =>
      cases k with
      | zero => cases hb
      | succ k => exact eqvL_toP xs ys n k ha hb
    | obj o => cases o <;> first | (cases k <;> rfl) | (cases hb)
    | g _ => cases hb
    | scr _ => cases hb
    | _ => rfl
  | .obj o, b, n, k, ha, hb => eqvO_toP o b n k ha hb
  | .g _, b, n, k, ha, _ => by cases ha
  | .scr _, b, n, k, ha, _ => by cases ha
termination_by structural a => a
theorem eqvO_toP : ∀ (a : O) (b : D) (n k : Nat), a.dat n = true → b.dat k = true → D.eqv (.obj a) b = PyData.eqv a.toP b.toP
  | .lst xs, b, 0, k, ha, hb => by cases ha
  | .lst xs, b, n + 1, k, ha, hb => by
    cases b with
    | tup ys => rfl
    | obj o =>
      cases o with
      | lst ys =>
        cases k with
        | zero => cases hb
        | succ k => exact eqvL_toP xs ys n k ha hb
      | _ => cases hb
    | g _ => cases hb
    | scr _ => cases hb
    | _ => rfl
  | .dK _, b, n, k, ha, _ => by cases ha
  | .dT _, b, n, k, ha, _ => by cases ha
  | .ins _ _, b, n, k, ha, _ => by cases ha
termination_by structural a => a
theorem eqvL_toP : ∀ (a b : List D) (n k : Nat), D.datL a n = true → D.datL b k = true → D.eqvL a b = PyData.eqvAll (D.toPL a) (D.toPL b)
  | [], b, n, k, _, _ => by cases b <;> rfl
  | x :: xs, [], n, k, _, _ => rfl
  | x :: xs, y :: ys, n, k, ha, hb => by
    obtain ⟨h1, h2⟩ := Bool.and_eq_true_iff.mp (show (x.dat n && D.datL xs n) = true from ha)
    obtain ⟨h3, h4⟩ := Bool.and_eq_true_iff.mp (show (y.dat k && D.datL ys k) = true from hb)
    show (D.eqv x y && D.eqvL xs ys) = (PyData.eqv x.toP y.toP && PyData.eqvAll (D.toPL xs) (D.toPL ys))
    rw [eqv_toP x y n k h1 h3, eqvL_toP xs ys n k h2 h4]
termination_by structural a => a
end
mutual
theorem alk_toP : ∀ (a b : D) (n k : Nat), a.dat n = true → b.dat k = true → D.alk a b = PySem.W.alike a.toP b.toP
  | .non, b, n, k, _, hb => by
    cases b with
    | obj o => cases o <;> first | (cases k <;> rfl) | (cases hb)
    | g _ => cases hb
    | scr _ => cases hb
    | _ => rfl
  | .bl x, b, n, k, _, hb => by
    cases b with
    | obj o => cases o <;> first | (cases k <;> rfl) | (cases hb)
    | g _ => cases hb
    | scr _ => cases hb
    | _ => rfl
  | .int x, b, n, k, _, hb => by
    cases b with
    | obj o => cases o <;> first | (cases k <;> rfl) | (cases hb)
    | g _ => cases hb
    | scr _ => cases hb
    | _ => rfl
  | .str x, b, n, k, _, hb => by
    cases b with
    | obj o => cases o <;> first | (cases k <;> rfl) | (cases hb)
    | g _ => cases hb
    | scr _ => cases hb
    | _ => rfl
  | .tup xs, b, 0, k, ha, hb => by cases ha
  | .tup xs, b, n + 1, k, ha, hb => by
    cases b with
    | tup ys =>
      cases k with
      | zero => cases hb
      | succ k => exact alkL_toP xs ys n k ha hb
    | obj o => cases o <;> first | (cases k <;> rfl) | (cases hb)
    | g _ => cases hb
    | scr _ => cases hb
    | _ => rfl
  | .obj o, b, n, k, ha, hb => alkO_toP o b n k ha hb
  | .g _, b, n, k, ha, _ => by cases ha
  | .scr _, b, n, k, ha, _ => by cases ha
termination_by structural a => a
theorem alkO_toP : ∀ (a : O) (b : D) (n k : Nat), a.dat n = true → b.dat k = true → D.alk (.obj a) b = PySem.W.alike a.toP b.toP
  | .lst xs, b, 0, k, ha, hb => by cases ha
  | .lst xs, b, n + 1, k, ha, hb => by
    cases b with
    | tup ys => rfl
    | obj o =>
      cases o with
      | lst ys =>
        cases k with
        | zero => cases hb
        | succ k => exact alkL_toP xs ys n k ha hb
      | _ => cases hb
    | g _ => cases hb
    | scr _ => cases hb
    | _ => rfl
  | .dK _, b, n, k, ha, _ => by cases ha
  | .dT _, b, n, k, ha, _ => by cases ha
  | .ins _ _, b, n, k, ha, _ => by cases ha
termination_by structural a => a
theorem alkL_toP : ∀ (a b : List D) (n k : Nat), D.datL a n = true → D.datL b k = true → D.alkL a b = PySem.W.alikeAll (D.toPL a) (D.toPL b)
  | [], b, n, k, _, _ => by cases b <;> rfl
  | x :: xs, [], n, k, _, _ => rfl
  | x :: xs, y :: ys, n, k, ha, hb => by
    obtain ⟨h1, h2⟩ := Bool.and_eq_true_iff.mp (show (x.dat n && D.datL xs n) = true from ha)
    obtain ⟨h3, h4⟩ := Bool.and_eq_true_iff.mp (show (y.dat k && D.datL ys k) = true from hb)
    show (D.alk x y && D.alkL xs ys) = (PySem.W.alike x.toP y.toP && PySem.W.alikeAll (D.toPL xs) (D.toPL ys))
    rw [alk_toP x y n k h1 h3, alkL_toP xs ys n k h2 h4]
termination_by structural a => a
end
mutual
theorem lt_toP : ∀ (a b : D) (n k : Nat), a.dat n = true → b.dat k = true → D.alk a b = true → D.lt a b = PySem.W.dataLt a.toP b.toP
  | .non, b, n, k, _, hb, h => by
    cases b with
    | non => exact (PyProof.Rows.lex_irrefl _).symm
    | obj o => cases o <;> cases h
    | _ => cases h
  | .bl x, b, n, k, _, hb, h => by
    cases b with
    | bl y =>
      refine Eq.trans ?_ (PySem.W.dataLt_bool x y).symm
      cases x <;> cases y <;> rfl
    | obj o => cases o <;> cases h
    | _ => cases h
  | .int x, b, n, k, _, hb, h => by
    cases b with
    | int y => exact (PySem.W.dataLt_int x y).symm
    | obj o => cases o <;> cases h
    | _ => cases h
  | .str x, b, n, k, _, hb, h => by
    cases b with
    | str y => exact (PySem.W.dataLt_str x y).symm
    | obj o => cases o <;> cases h
    | _ => cases h
  | .tup xs, b, 0, k, ha, hb, h => by cases ha
  | .tup xs, b, n + 1, k, ha, hb, h => by
    cases b with
    | tup ys =>
      cases k with
      | zero => cases hb
      | succ k => exact (ltL_toP xs ys n k ha hb h).trans (PySem.W.dataLt_tuple _ _).symm
    | obj o => cases o <;> cases h
    | _ => cases h
  | .obj o, b, n, k, ha, hb, h => ltO_toP o b n k ha hb h
  | .g _, b, n, k, ha, _, _ => by cases ha
  | .scr _, b, n, k, ha, _, _ => by cases ha
termination_by structural a => a
theorem ltO_toP : ∀ (a : O) (b : D) (n k : Nat), a.dat n = true → b.dat k = true → D.alk (.obj a) b = true → D.lt (.obj a) b = PySem.W.dataLt a.toP b.toP
  | .lst xs, b, 0, k, ha, hb, h => by cases ha
  | .lst xs, b, n + 1, k, ha, hb, h => by
    cases b with
    | obj o =>
      cases o with
      | lst ys =>
        cases k with
        | zero => cases hb
        | succ k => exact (ltL_toP xs ys n k ha hb h).trans (PySem.W.dataLt_list _ _).symm
      | _ => cases hb
    | _ => cases h
  | .dK _, b, n, k, ha, _, _ => by cases ha
  | .dT _, b, n, k, ha, _, _ => by cases ha
  | .ins _ _, b, n, k, ha, _, _ => by cases ha
termination_by structural a => a
theorem ltL_toP : ∀ (a b : List D) (n k : Nat), D.datL a n = true → D.datL b k = true → D.alkL a b = true → D.ltL a b = PyProof.Rows.lexLt PyProof.Rows.itemOrd (PySem.W.keyToksAll (D.toPL a)) (PySem.W.keyToksAll (D.toPL b))
  | [], [], n, k, _, _, _ => (PyProof.Rows.lex_irrefl _).symm
  | [], y :: ys, n, k, _, _, _ => by
    show true = _
    rw [show D.toPL ([] : List D) = [] from rfl, show D.toPL (y :: ys) = y.toP :: D.toPL ys from rfl, PySem.W.toks_all_cons]
    simp only [PySem.W.keyToksAll]
    rw [PyProof.Rows.lex_diff (O := PyProof.Rows.itemOrd) (by simp)]
    rfl
  | x :: xs, [], n, k, _, _, _ => by
    show false = _
    rw [show D.toPL ([] : List D) = [] from rfl, show D.toPL (x :: xs) = x.toP :: D.toPL xs from rfl, PySem.W.toks_all_cons]
    simp only [PySem.W.keyToksAll]
    rw [PyProof.Rows.lex_diff (O := PyProof.Rows.itemOrd) (by simp)]
    rfl
  | x :: xs, y :: ys, n, k, ha, hb, h => by
    obtain ⟨h1, h2⟩ := Bool.and_eq_true_iff.mp (show (x.dat n && D.datL xs n) = true from ha)
    obtain ⟨h3, h4⟩ := Bool.and_eq_true_iff.mp (show (y.dat k && D.datL ys k) = true from hb)
    obtain ⟨h5, h6⟩ := Bool.and_eq_true_iff.mp (show (D.alk x y && D.alkL xs ys) = true from h)
    have h7 : PySem.W.alike x.toP y.toP = true := by rw [← alk_toP x y n k h1 h3]; exact h5
    show (if D.eqv x y = true then D.ltL xs ys else D.lt x y) = PyProof.Rows.lexLt PyProof.Rows.itemOrd (PySem.W.keyToksAll (x.toP :: D.toPL xs)) (PySem.W.keyToksAll (y.toP :: D.toPL ys))
    rw [eqv_toP x y n k h1 h3]
    by_cases q : PyData.eqv x.toP y.toP = true
    · rw [if_pos q, PySem.W.dataLt_all_yes h7 q]
      exact ltL_toP xs ys n k h2 h4 h6
    · rw [if_neg q, PySem.W.dataLt_all_no h7 (by simpa using q)]
      exact lt_toP x y n k h1 h3 h5
termination_by structural a => a
end
end Mn
/-! Mn5: readings by evaluation; operators. -/
namespace Mn
open PySem PySem.Spec PyProof.Rows L2
def DenX (T : Tb) (m : Wd) (H : Hp) (x : XV) (cls : Value) (d : Option Addr) : Prop :=
  cls = .ref (T.xa x.c) ∧ (x.fs = [] ∨ ∃ dx xs, d = some dx ∧ H dx = some (.xd ((T.xf x.c).zip xs)) ∧ DenL T m x.fs xs)
def OkR {α : Type} (T : Tb) (Rs : Hp) (Wx : WX) (m : Wd) (σ : L2.St) (r : R α) (k : α → Wd → List S → List O → Hp → Prop) : Prop := match r with
  | .ok a e G => ∀ m' H', m.le m' → RlG T Rs m' G H' → RlS T Rs m' e σ H' → k a m' e G H'
  | .ex x e G => ∀ cls d m' H', m.le m' → RlG T Rs m' G H' → RlS T Rs m' e σ H' → DenX T m' H' x cls d → Wx cls d σ H'
  | .no => False
section
variable {T : Tb} {Rs : Hp} {Wx : WX} {m : Wd} {σ : L2.St}
theorem OkR.le {α : Type} {r : R α} {k : α → Wd → List S → List O → Hp → Prop} {m' : Wd} (h : OkR T Rs Wx m σ r k) (l : m.le m') : OkR T Rs Wx m' σ r k := by
  cases r with
  | ok a e G => exact fun m2 H2 l2 g s => h m2 H2 (l.trans l2) g s
  | ex x e G => exact fun c d m2 H2 l2 g s x => h c d m2 H2 (l.trans l2) g s x
  | no => exact h
theorem OkR.thn {α β : Type} {r : R α} {f : α → List S → List O → R β} {k : β → Wd → List S → List O → Hp → Prop} {k' : α → Wd → List S → List O → Hp → Prop} (h : OkR T Rs Wx m σ (r.bind f) k)
    (q : ∀ a m' e' G' H', m.le m' → RlG T Rs m' G' H' → RlS T Rs m' e' σ H' → OkR T Rs Wx m' σ (f a e' G') k → k' a m' e' G' H') : OkR T Rs Wx m σ r k' := by
  cases r with
  | ok a e G => exact fun m2 H2 l2 g s => q a m2 e G H2 l2 g s (OkR.le h l2)
  | ex x e G => exact h
  | no => exact h
theorem OkR.imp {α : Type} {r : R α} {k k' : α → Wd → List S → List O → Hp → Prop} (h : OkR T Rs Wx m σ r k) (q : ∀ a m' e' G' H', m.le m' → RlG T Rs m' G' H' → RlS T Rs m' e' σ H' → k a m' e' G' H' → k' a m' e' G' H') : OkR T Rs Wx m σ r k' := by
  cases r with
  | ok a e G => exact fun m2 H2 l2 g s => q a m2 e G H2 l2 g s (h m2 H2 l2 g s)
  | ex x e G => exact h
  | no => exact h
end
/-- an expression's reading: what it yields, yields as data, tells -/
def tE (T : Tb) (Wx : WX) (r : List S → List O → R W) : TE := fun σ H Q => ∃ Rs m G e, RlG T Rs m G H ∧ RlS T Rs m e σ H ∧ OkR T Rs Wx m σ (r e G) fun w m' e' G' H' => ∀ v, DenW T Rs m' e' σ H' w v → Q v H'
def tD (T : Tb) (Wx : WX) (r : List S → List O → R D) : TE := fun σ H Q => ∃ Rs m G e, RlG T Rs m G H ∧ RlS T Rs m e σ H ∧ OkR T Rs Wx m σ (r e G) fun d m' e' G' H' => ∀ v, Den T m' d v → Q v H'
def tBo (T : Tb) (Wx : WX) (r : List S → List O → R Bool) : TT := fun σ H Q => ∃ Rs m G e, RlG T Rs m G H ∧ RlS T Rs m e σ H ∧ OkR T Rs Wx m σ (r e G) fun b m' e' G' H' => Q b H'
def tDs (T : Tb) (Wx : WX) (r : List S → List O → R (List D)) : TA := fun σ H Q => ∃ Rs m G e, RlG T Rs m G H ∧ RlS T Rs m e σ H ∧ OkR T Rs Wx m σ (r e G) fun ds m' e' G' H' => ∀ vs, DenL T m' ds vs → Q vs H'
theorem PE.imp {X : Cx} {e : Expr} {t t' : TE} (h : PE X e t) (i : ∀ σ H Q, t' σ H Q → t σ H Q) : PE X e t' := ⟨fun pins s σ H Q I q => h.run pins s σ H Q I (i σ H Q q)⟩
theorem PT.imp {X : Cx} {e : Expr} {t t' : TT} (h : PT X e t) (i : ∀ σ H Q, t' σ H Q → t σ H Q) : PT X e t' := ⟨fun pins s σ H Q I q => h.run pins s σ H Q I (i σ H Q q)⟩
theorem PW.imp {X : Cx} {e : Expr} {t t' : TT} (h : PW X e t) (i : ∀ σ H Q, t' σ H Q → t σ H Q) : PW X e t' := ⟨fun wh pins s σ H Q I q => h.run wh pins s σ H Q I (i σ H Q q)⟩
theorem PA.imp {X : Cx} {e : List Expr} {t t' : TA} (h : PA X e t) (i : ∀ σ H Q, t' σ H Q → t σ H Q) : PA X e t' := ⟨fun pos pins s σ H Q I q => h.run pos pins s σ H Q I (i σ H Q q)⟩
theorem PS.imp {X : Cx} {e : Stmt} {t t' : TS} (h : PS X e t) (i : ∀ D σ H, t' D σ H → t D σ H) : PS X e t' := ⟨fun pins s σ H D I q => h.run pins s σ H D I (i D σ H q)⟩
theorem PSs.imp {X : Cx} {e : List Stmt} {t t' : TS} (h : PSs X e t) (i : ∀ D σ H, t' D σ H → t D σ H) : PSs X e t' := ⟨fun pins s σ H D I q => h.run pins s σ H D I (i D σ H q)⟩
section
variable {T : Tb} {Rs : Hp} {Wx : WX} {m : Wd} {σ : L2.St} {G : List O} {e : List S} {H : Hp}
theorem RlS.frz (s : RlS T Rs m e σ H) {p : Addr} (h1 : m.F p = none) (hO : ∀ (i : Nat) (q : O), e[i]? = some (.own q) → σ[i]? ≠ some (some (.ref p))) : RlS T Rs (m.frz H p) e σ H :=
  s.more (Wd.frz_le h1) fun i o q h k => by
    obtain ⟨p', a1, a2, a3, a4, _⟩ := s.o i o h
    rw [k] at a1
    cases a1
    have ne : q ≠ p := fun y => hO i o h (by rw [k, y])
    exact ⟨by rw [Wd.frz_ne ne]; exact a2, a4⟩
/-- a new object becomes data -/
theorem toD_ok {w : W} {d : D} {v : V} (g : RlG T Rs m G H) (s : RlS T Rs m e σ H) (dw : DenW T Rs m e σ H w v) (h : toD w = some d) : ∃ m', m.le m' ∧ RlG T Rs m' G H ∧ RlS T Rs m' e σ H ∧ Den T m' d v := by
  cases w with
  | d x =>
    cases h
    exact ⟨m, Wd.le.refl m, g, s, dw⟩
  | f o =>
    cases h
    obtain ⟨p, rfl, hF, hR, hr, hO, den⟩ := dw
    exact ⟨m.frz H p, Wd.frz_le hF, g.frz hF hR hr, s.frz hF hO, p, rfl, den.toF hF⟩
  | b i => cases h
  | k ds => cases h
theorem tE_of_tD {r : List S → List O → R W} {σ : L2.St} {H : Hp} {Q : VK} (h : tD T Wx (fun e G => (r e G).toD) σ H Q) : tE T Wx r σ H Q := by
  obtain ⟨Rs, m, G, e, g, s, h⟩ := h
  refine ⟨Rs, m, G, e, g, s, OkR.thn h fun w m1 e1 G1 H1 le g1 s1 h1 v dw => ?_⟩
  cases q : toD w with
  | none =>
    rw [q] at h1
    exact h1.elim
  | some d =>
    rw [q] at h1
    obtain ⟨m2, l2, g2, s2, dn⟩ := toD_ok g1 s1 dw q
    exact h1 m2 H1 l2 g2 s2 v dn
/-- a new tuple -/
theorem new_tup {xs : List V} {ds : List D} {p : Addr} (g : RlG T Rs m G H) (s : RlS T Rs m e σ H) (hp : H p = none) (dl : DenL T m ds xs) :
    ∃ m', m.le m' ∧ RlG T Rs m' G (upd H p (.tup xs)) ∧ RlS T Rs m' e σ (upd H p (.tup xs)) ∧ Den T m' (.tup ds) (.ref p) := by
  have k : ∀ q o, H q = some o → upd H p (.tup xs) q = some o := fun q o h => by rw [upd_ne (ne_of_none h hp)]; exact h
  have g' := g.keep k
  have s' := s.keep k
  have hF := g.freeF hp
  refine ⟨m.frz (upd H p (.tup xs)) p, Wd.frz_le hF, g'.frz hF (g.freeR hp) (g.freeG hp), s'.frz hF (s.freeO hp), p, xs, rfl, ?_, DenL.mono (Wd.frz_le hF) ds xs dl⟩
  rw [Wd.frz_at]
  exact upd_same
theorem new_obj {o : HO} {q : O} {p : Addr} (g : RlG T Rs m G H) (s : RlS T Rs m e σ H) (hp : H p = none) (dn : DenO T m (upd H p o) false q p) :
    RlG T Rs m G (upd H p o) ∧ RlS T Rs m e σ (upd H p o) ∧ DenW T Rs m e σ (upd H p o) (.f q) (.ref p) := by
  have k : ∀ q o', H q = some o' → upd H p o q = some o' := fun q o' h => by rw [upd_ne (ne_of_none h hp)]; exact h
  exact ⟨g.keep k, s.keep k, p, rfl, g.freeF hp, g.freeR hp, g.freeG hp, s.freeO hp, dn⟩
theorem new_lst {xs : List V} {ds : List D} {p : Addr} (g : RlG T Rs m G H) (s : RlS T Rs m e σ H) (hp : H p = none) (dl : DenL T m ds xs) :
    RlG T Rs m G (upd H p (.lst xs)) ∧ RlS T Rs m e σ (upd H p (.lst xs)) ∧ DenW T Rs m e σ (upd H p (.lst xs)) (.f (.lst ds)) (.ref p) :=
  new_obj g s hp ⟨xs, .inl upd_same, dl⟩
/-- a list, a tuple that is read -/
theorem rdO_at {w : W} {o : O} {v : V} (g : RlG T Rs m G H) (s : RlS T Rs m e σ H) (dw : DenW T Rs m e σ H w v) (h : rdO e G w = some o) : ∃ p, v = .ref p ∧ DenO T m H true o p := by
  have up : ∀ {o : O} {p : Addr}, DenO T m H false o p → DenO T m H true o p := fun {o p} q => by
    cases o with
    | lst ds =>
      obtain ⟨xs, y, l⟩ := q
      exact ⟨xs, y.elim (fun z => Or.inl z) (fun z => nomatch z.1), l⟩
    | dK kvs => exact q
    | dT kvs => exact q
    | ins c ds => exact q
  cases w with
  | d x =>
    cases x with
    | obj o' =>
      cases h
      obtain ⟨p, rfl, q⟩ := dw
      exact ⟨p, rfl, DenO.mono (Wd.le.refl m) g.fz o p q⟩
    | g n =>
      obtain ⟨p, rfl, q⟩ := dw
      exact ⟨p, rfl, up (g.g n p o q h).2⟩
    | _ => cases h
  | f o' =>
    cases h
    obtain ⟨p, rfl, _, _, _, _, den⟩ := dw
    exact ⟨p, rfl, up den⟩
  | b i =>
    have h' : (match e[i]? with | some (.own o) => some o | _ => none) = some o := h
    split at h'
    · rename_i h1
      cases h'
      obtain ⟨p, q1, _, _, _, q5⟩ := s.o i o h1
      have h2 : σ[i]? = some (some v) := dw
      rw [h2] at q1
      cases q1
      exact ⟨p, rfl, up q5⟩
    · cases h'
  | k ds => cases h
theorem rd_lst {p : Addr} {ds : List D} (h : DenO T m H true (.lst ds) p) : ∃ xs, Rd H p (.lst xs) ∧ DenL T m ds xs := by
  obtain ⟨xs, y, l⟩ := h
  exact ⟨xs, y.elim (fun z => Or.inl z) (fun z => Or.inr z.2), l⟩
theorem scr_den {T : Tb} {m : Wd} : ∀ ns : List Int, DenL T m (ns.map D.int) (ns.map V.int)
  | [] => rfl
  | a :: ns => ⟨_, _, rfl, rfl, scr_den ns⟩
theorem rdL_at {w : W} {ds : List D} {v : V} (g : RlG T Rs m G H) (s : RlS T Rs m e σ H) (dw : DenW T Rs m e σ H w v) (h : rdL e G w = some ds) : ∃ p xs, v = .ref p ∧ DenL T m ds xs ∧ (SqL T.K H p xs ∨ SqT T.K H p xs) := by
  have gen : (match rdO e G w with | some (.lst xs) => some xs | _ => none) = some ds → ∃ p xs, v = .ref p ∧ DenL T m ds xs ∧ (SqL T.K H p xs ∨ SqT T.K H p xs) := fun h => by
    cases q : rdO e G w with
    | none => rw [q] at h; cases h
    | some o =>
      rw [q] at h
      cases o with
      | lst ys =>
        cases h
        obtain ⟨p, rfl, dn⟩ := rdO_at g s dw q
        obtain ⟨xs, r, l⟩ := rd_lst dn
        exact ⟨p, xs, rfl, l, .inl (.inl r)⟩
      | _ => cases h
  cases w with
  | d x =>
    cases x with
    | tup ys =>
      cases h
      obtain ⟨p, xs, rfl, h1, h2⟩ := dw
      exact ⟨p, xs, rfl, h2, .inr (.inl (.inl (g.fz _ _ h1)))⟩
    | scr ns =>
      cases h
      obtain ⟨p, rfl, h1⟩ := dw
      exact ⟨p, _, rfl, scr_den ns, .inl (sqL_mono g.fz h1)⟩
    | _ => exact gen h
  | k ys =>
    cases h
    obtain ⟨p, xs, rfl, h1, h2⟩ := dw
    refine ⟨p, xs, rfl, h2, .inr ?_⟩
    rcases h1 with h1 | h1
    · rcases h1 with h1 | ⟨_, h1⟩ <;> cases h1
    · exact .inr h1
  | _ => exact gen h
theorem rdL_lst {w : W} {ds : List D} {v : V} (g : RlG T Rs m G H) (s : RlS T Rs m e σ H) (dw : DenW T Rs m e σ H w v) (h : rdL e G w = some ds) (nt : ∀ ys, w ≠ .d (.tup ys)) (nk : ∀ ys, w ≠ .k ys) : ∃ p xs, v = .ref p ∧ DenL T m ds xs ∧ SqL T.K H p xs := by
  have gen : (match rdO e G w with | some (.lst xs) => some xs | _ => none) = some ds → ∃ p xs, v = .ref p ∧ DenL T m ds xs ∧ SqL T.K H p xs := fun h => by
    cases q : rdO e G w with
    | none => rw [q] at h; cases h
    | some o =>
      rw [q] at h
      cases o with
      | lst ys =>
        cases h
        obtain ⟨p, rfl, dn⟩ := rdO_at g s dw q
        obtain ⟨xs, r, l⟩ := rd_lst dn
        exact ⟨p, xs, rfl, l, .inl r⟩
      | _ => cases h
  cases w with
  | d x =>
    cases x with
    | tup ys => exact absurd rfl (nt ys)
    | scr ns =>
      cases h
      obtain ⟨p, rfl, h1⟩ := dw
      exact ⟨p, _, rfl, scr_den ns, sqL_mono g.fz h1⟩
    | _ => exact gen h
  | k ys => exact absurd rfl (nk ys)
  | _ => exact gen h
end
/-! ### operators -/
section
variable {X : Cx}
theorem lstR {pins : List (Addr × Obj)} {σ : L2.St} {H : Hp} {s : Shared} {l : Addr} {xs : List V} (I : Inv X pins σ H s) (hH : Rd H l (.lst xs)) : ∃ (its : List Value) (n : Nat), Vals xs its ∧ xs.length = its.length ∧ s.heap.get? l = some { cls := .type "list", data := .seq its.toArray n } :=
  let ⟨_, its, n, r, e⟩ := hH.ok I.hok; ⟨its, n, r, r.length, e⟩
def rCatR : R2 := fun x y H Q => ∃ l b xs zs, x = .ref l ∧ y = .ref b ∧ Rd H l (.lst xs) ∧ Rd H b (.lst zs) ∧ xs.length + zs.length ≤ sizeLine ∧ ∀ p, H p = none → Q (.ref p) (upd H p (.lst (xs ++ zs)))
theorem op_catR : OpR X (binaryOp .Add) rCatR := fun pins s σ H x y v u Q I rx ry ⟨l, b, xs, zs, ex, ey, hH, hB, hz, q⟩ => by
  subst ex ey
  obtain ⟨⟩ := rx
  obtain ⟨⟩ := ry
  obtain ⟨as, n, ra, la, at1⟩ := lstR I hH
  obtain ⟨bs, k, rb, lb, at2⟩ := lstR I hB
  have sm : as.toArray.size + bs.toArray.size ≤ sizeLine := by simpa [← la, ← lb] using hz
  exact PySem.P.add_list at1 at2 (by
    rw [List.append_toArray]
    exact ⟨.ref _, _, I.lnew (t' := s.toks) (ra.append rb) (List.length_append ▸ hz), rfl, q _ I.fresh⟩) sm
def rRepR : R2 := fun x y H Q => ∃ l k xs, x = .ref l ∧ y = .int k ∧ Rd H l (.lst xs) ∧ -(2 ^ 63) ≤ k ∧ k < 2 ^ 63 ∧ xs.length * k.toNat ≤ sizeLine ∧ ∀ p, H p = none → Q (.ref p) (upd H p (.lst (List.replicate k.toNat xs).flatten))
theorem fold_rep (its : List Value) (m : Nat) : List.foldl (fun a b => a ++ b) #[] (List.replicate (if its.toArray.isEmpty = true then 0 else m) its.toArray) = (List.replicate m its).flatten.toArray := by
  have all : ∀ k, List.foldl (fun a b => a ++ b) #[] (List.replicate k its.toArray) = (List.replicate k its).flatten.toArray := fun k => by simpa using foldl_rep its k []
  cases its with
  | nil => simp
  | cons a r => exact all m
theorem op_repR : OpR X (binaryOp .Mult) rRepR := fun pins s σ H x y v u Q I rx ry ⟨l, k, xs, ex, ey, hH, h1, h2, hz, q⟩ => by
  subst ex ey
  obtain ⟨⟩ := rx
  obtain ⟨t, rfl⟩ := ry
  obtain ⟨as, n, ra, la, at1⟩ := lstR I hH
  have sm : as.toArray.size * k.toNat ≤ sizeLine := by simpa [← la] using hz
  have cap : (sizeLine : Nat) ≤ (2 ^ 63 - 1) / 8 := by decide
  have ty : s.TypeIs (.ref l) "list" := ⟨_, at1, rfl⟩
  have out : ∃ x H', Inv X pins σ H' { s with heap := s.heap.push { cls := .type "list", data := .seq (List.replicate k.toNat as).flatten.toArray } } ∧ RelV x (.ref s.heap.objs.size) ∧ Q x H' := ⟨.ref _, _, I.lnew (t' := s.toks) (ra.rep k.toNat) (by rw [PyProof.Rows.lm_len_rep_flat, Nat.mul_comm]; exact hz), rfl, q _ I.fresh⟩
  rw [← fold_rep] at out
  have lm := AutoListH.list___mul___list_int_3 l as.toArray n k t (by simp [fitsIndex_both h1 h2]) (by omega) (ne_true_of_eq_false (notLongL sm))
  have kt : ∀ s : Shared, s.TypeIs (.int k t) "int" := fun s => typeIs_int s k t
  have back := int___rmul___int_list k t l as.toArray n
  exact wpAny_binaryOp_repeat_ref (by decide) ty kt noFill_list_mul F.fills_int_mul F.slot_int_rmul repeat_list F.slot_int_index.lookup <| call_meets F.slot_int_rmul (kt s) F.entry_int_rmul (F.args_int_rmul_2 _ _) back
    ⟨at1, rfl, ty, call_meets F.slot_list_mul ty F.entry_list_mul (F.args_list_mul_2 _ _) lm ⟨at1, out⟩⟩
theorem op_add_bb : OpR X (binaryOp .Add) (fun x y H Q => ∃ i j, x = .bl i ∧ y = .bl j ∧ Q (.int ((if i then 1 else 0) + (if j then 1 else 0))) H) := fun pins s σ H x y v u Q I rx ry ⟨i, j, ex, ey, q⟩ => by
  subst ex ey
  obtain ⟨⟩ := rx
  obtain ⟨⟩ := ry
  cases i <;> cases j <;> exact PyProof.Rows.add_bool ⟨.int _, H, I.tok _, ⟨_, rfl⟩, q⟩
end
end Mn
/-! Mn6: operators over data. -/
namespace Mn
open PySem PySem.Spec PyProof.Rows L2
def BOp.py : BOp → Operator
  | .add => .Add
  | .sub => .Sub
  | .mul => .Mult
  | .mod => .Mod
  | .fdv => .FloorDiv
  | .pow => .Pow
def COp.py : COp → CmpOp
  | .eq => .Eq
  | .ne => .NotEq
  | .lt => .Lt
  | .le => .LtE
  | .gt => .Gt
  | .ge => .GtE
  | .isN => .Is
  | .isNt => .IsNot
  | .mem => .In
  | .nmem => .NotIn
  | .dmem => .In
  | .dnmem => .NotIn
def rBin (T : Tb) (op : BOp) : R2 := fun x y H Q => ∃ Rs m G e σ d1 d2 w, RlG T Rs m G H ∧ RlS T Rs m e σ H ∧ Den T m d1 x ∧ Den T m d2 y ∧ binop e G op d1 d2 = some w ∧
  ∀ v m' H', m.le m' → RlG T Rs m' G H' → RlS T Rs m' e σ H' → DenW T Rs m' e σ H' w v → Q v H'
section
variable {T : Tb} {Rs : Hp} {Wx : WX} {m : Wd} {σ : L2.St} {G : List O} {e : List S} {H : Hp}
theorem rdl_at {x : D} {ds : List D} {v : V} (g : RlG T Rs m G H) (s : RlS T Rs m e σ H) (dn : Den T m x v) (h : rdl e G (.d x) = some ds) : ∃ p xs, v = .ref p ∧ DenL T m ds xs ∧ Rd H p (.lst xs) := by
  unfold rdl at h
  cases q : rdO e G (.d x) with
  | none => rw [q] at h; cases h
  | some o =>
    rw [q] at h
    cases o with
    | lst ys =>
      cases h
      obtain ⟨p, ev, dn2⟩ := rdO_at g s (w := .d x) dn q
      subst ev
      obtain ⟨xs, r, l⟩ := rd_lst dn2
      exact ⟨p, xs, rfl, l, r⟩
    | _ => cases h
theorem DenL.rep {ds : List D} {xs : List V} (h : DenL T m ds xs) : ∀ k : Nat, DenL T m (List.replicate k ds).flatten (List.replicate k xs).flatten
  | 0 => rfl
  | k + 1 => by
    rw [List.replicate_succ, List.replicate_succ, List.flatten_cons, List.flatten_cons]
    exact h.append (DenL.rep h k)
theorem DenL.nil_iff {ds : List D} {xs : List V} (h : DenL T m ds xs) : ds = [] ↔ xs = [] := by
  have l := h.length
  constructor
  · rintro rfl
    exact List.eq_nil_of_length_eq_zero l.symm
  · rintro rfl
    exact List.eq_nil_of_length_eq_zero l
end
theorem op_bin {X : Cx} {T : Tb} (hK : X.K = T.K) : ∀ op : BOp, OpR X (binaryOp op.py) (rBin T op) := by
  intro op pins s σ H x y v u Q I rx ry h
  obtain ⟨Rs, m, G, e, σ0, d1, d2, w, g, sl, n1, n2, hb, k⟩ := h
  have fin : ∀ z, w = .d z → (∀ m', m.le m' → ∀ v, Den T m v = Den T m v) → ∀ v, Den T m z v → Q v H := fun z ez _ v dz => by
    subst ez
    exact k v m H (Wd.le.refl m) g sl dz
  have fin' : ∀ z, w = .d z → ∀ v, Den T m z v → Q v H := fun z ez v dz => fin z ez (fun _ _ _ => rfl) v dz
  cases op with
  | add =>
    show wpAny _ _ (binaryOp .Add v u) _ _ _
    unfold binop at hb
    dsimp only at hb
    unfold addop at hb
    split at hb
    · cases hb; obtain rfl := n1; obtain rfl := n2
      exact op_add pins s σ H _ _ v u Q I rx ry ⟨_, _, rfl, rfl, fin' _ rfl _ rfl⟩
    · cases hb; obtain rfl := n1; obtain rfl := n2
      exact op_add_ib pins s σ H _ _ v u Q I rx ry ⟨_, _, rfl, rfl, fin' _ rfl _ (by rename_i b _; cases b <;> rfl)⟩
    · cases hb; obtain rfl := n1; obtain rfl := n2
      exact op_add_bb pins s σ H _ _ v u Q I rx ry ⟨_, _, rfl, rfl, fin' _ rfl _ rfl⟩
    · obtain rfl := n1; obtain rfl := n2
      split at hb
      · rename_i hl
        cases hb
        exact op_add_str pins s σ H _ _ v u Q I rx ry ⟨_, _, rfl, rfl, hl, fin' _ rfl _ rfl⟩
      · cases hb
    · rename_i xs ys
      obtain ⟨p, as, rfl, f1, l1⟩ := n1
      obtain ⟨q, bs, rfl, f2, l2⟩ := n2
      split at hb
      · rename_i hl
        cases hb
        refine op_catA pins s σ H _ _ v u Q I rx ry ⟨p, q, as, bs, rfl, rfl, .inl (.inl (g.fz _ _ f1)), .inl (.inl (g.fz _ _ f2)), by rw [← l1.length, ← l2.length]; exact hl, fun ea => ?_, fun ea eb => ?_, fun ea eb z hz => ?_⟩
        · subst ea
          have ex : xs = [] := l1.nil_iff.mpr rfl
          subst ex
          exact fin' _ rfl _ ⟨q, bs, rfl, f2, l2⟩
        · subst eb
          have ey : ys = [] := l2.nil_iff.mpr rfl
          subst ey
          refine fin' _ rfl _ ?_
          rw [List.append_nil]
          exact ⟨p, as, rfl, f1, l1⟩
        · obtain ⟨m', le, g', s', dn⟩ := new_tup g sl hz (l1.append l2)
          exact k _ m' _ le g' s' dn
      · cases hb
    · split at hb
      · rename_i xs ys ex ey
        split at hb
        · rename_i hl
          cases hb
          obtain ⟨p, as, rfl, l1, r1⟩ := rdl_at g sl n1 ex
          obtain ⟨q, bs, rfl, l2, r2⟩ := rdl_at g sl n2 ey
          refine op_catR pins s σ H _ _ v u Q I rx ry ⟨p, q, as, bs, rfl, rfl, r1, r2, by rw [← l1.length, ← l2.length]; exact hl, fun z hz => ?_⟩
          obtain ⟨g', s', dw⟩ := new_lst g sl hz (l1.append l2)
          exact k _ m _ (Wd.le.refl m) g' s' dw
        · cases hb
      · cases hb
  | sub =>
    show wpAny _ _ (binaryOp .Sub v u) _ _ _
    unfold binop at hb
    dsimp only at hb
    unfold subop at hb
    split at hb
    · cases hb; obtain rfl := n1; obtain rfl := n2
      exact op_sub pins s σ H _ _ v u Q I rx ry ⟨_, _, rfl, rfl, fin' _ rfl _ rfl⟩
    · cases hb
  | mul =>
    show wpAny _ _ (binaryOp .Mult v u) _ _ _
    unfold binop at hb
    dsimp only at hb
    unfold mulop at hb
    split at hb
    · obtain rfl := n1; obtain rfl := n2
      split at hb
      · rename_i hc
        cases hb
        refine op_mul pins s σ H _ _ v u Q I rx ry ⟨_, _, rfl, rfl, ?_, fin' _ rfl _ rfl⟩
        simp only [smallI, Bool.or_eq_true, Bool.and_eq_true, decide_eq_true_eq] at hc
        exact hc
      · cases hb
    · obtain ⟨p, as, rfl, f1, l1⟩ := n1
      obtain rfl := n2
      split at hb
      · rename_i hc
        cases hb
        simp only [Bool.and_eq_true, decide_eq_true_eq, Bool.not_eq_true', List.isEmpty_eq_false_iff] at hc
        obtain ⟨⟨⟨c1, c2⟩, c3⟩, c4⟩ := hc
        refine op_repT pins s σ H _ _ v u Q I rx ry ⟨p, _, as, rfl, rfl, .inl (.inl (g.fz _ _ f1)), fun z => c1 (l1.nil_iff.mpr z), c2, c3, by rw [← l1.length]; exact c4, fun z hz => ?_⟩
        obtain ⟨m', le, g', s', dn⟩ := new_tup g sl hz (l1.rep _)
        exact k _ m' _ le g' s' dn
      · cases hb
    · obtain rfl := n2
      split at hb
      · rename_i xs ex
        split at hb
        · rename_i hc
          cases hb
          simp only [Bool.and_eq_true, decide_eq_true_eq] at hc
          obtain ⟨⟨c1, c2⟩, c3⟩ := hc
          obtain ⟨p, as, rfl, l1, r1⟩ := rdl_at g sl n1 ex
          refine op_repR pins s σ H _ _ v u Q I rx ry ⟨p, _, as, rfl, rfl, r1, c1, c2, by rw [← l1.length]; exact c3, fun z hz => ?_⟩
          obtain ⟨g', s', dw⟩ := new_lst g sl hz (l1.rep _)
          exact k _ m _ (Wd.le.refl m) g' s' dw
        · cases hb
      · cases hb
    · cases hb
  | mod =>
    show wpAny _ _ (binaryOp .Mod v u) _ _ _
    unfold binop at hb
    dsimp only at hb
    unfold modop at hb
    split at hb
    · obtain rfl := n1; obtain rfl := n2
      split at hb
      · rename_i hc
        cases hb
        exact op_mod pins s σ H _ _ v u Q I rx ry ⟨_, _, rfl, rfl, hc, fin' _ rfl _ rfl⟩
      · cases hb
    · cases hb
  | fdv =>
    show wpAny _ _ (binaryOp .FloorDiv v u) _ _ _
    unfold binop at hb
    dsimp only at hb
    unfold fdvop at hb
    split at hb
    · obtain rfl := n1; obtain rfl := n2
      split at hb
      · rename_i hc
        cases hb
        simp only [Bool.and_eq_true, decide_eq_true_eq] at hc
        exact op_fdiv pins s σ H _ _ v u Q I rx ry ⟨_, _, rfl, rfl, hc, fin' _ rfl _ rfl⟩
      · cases hb
    · cases hb
  | pow =>
    show wpAny _ _ (binaryOp .Pow v u) _ _ _
    unfold binop at hb
    dsimp only at hb
    unfold powop at hb
    split at hb
    · obtain rfl := n1; obtain rfl := n2
      split at hb
      · rename_i hc
        cases hb
        simp only [Bool.and_eq_true, decide_eq_true_eq] at hc
        exact op_pow pins s σ H _ _ v u Q I rx ry ⟨_, _, rfl, rfl, ⟨hc.1.1, hc.1.2, hc.2⟩, fin' _ rfl _ rfl⟩
      · cases hb
    · cases hb
end Mn
/-! Mn7: comparisons, membership, keys. -/
namespace Mn
open PySem PySem.Spec PyProof.Rows L2
/-! ### keys -/
def keyD : Key → D
  | .inl i => .int i
  | .inr s => .str s
theorem den_key {T : Tb} {m : Wd} : ∀ {d : D} {k : Key}, Den T m d (kV k) → d = keyD k
  | .int i, .inl j, h => by
    have e : V.int j = V.int i := h
    cases e
    rfl
  | .str i, .inr j, h => by
    have e : V.str j = V.str i := h
    cases e
    rfl
  | .int i, .inr j, h => by
    have e : V.str j = V.int i := h
    cases e
  | .str i, .inl j, h => by
    have e : V.int j = V.str i := h
    cases e
  | .non, k, h => by
    have e : kV k = V.non := h
    cases k <;> cases e
  | .bl b, k, h => by
    have e : kV k = V.bl b := h
    cases k <;> cases e
  | .tup _, k, ⟨p, xs, e, _⟩ => by cases k <;> cases e
  | .obj _, k, ⟨p, e, _⟩ => by cases k <;> cases e
  | .g _, k, ⟨p, e, _⟩ => by cases k <;> cases e
  | .scr _, k, ⟨p, e, _⟩ => by cases k <;> cases e
theorem isK_key : ∀ {d : D}, isK d = true → ∃ k, d = keyD k
  | .int i, _ => ⟨.inl i, rfl⟩
  | .str i, _ => ⟨.inr i, rfl⟩
theorem key_den {T : Tb} {m : Wd} {k : Key} {v : V} (h : Den T m (keyD k) v) : v = kV k := by
  cases k <;> exact h
theorem eqv_key (a b : Key) : D.eqv (keyD a) (keyD b) = decide (a = b) := by
  cases a with
  | inl i =>
    cases b with
    | inl j =>
      show (i == j) = _
      rw [key_ll]
    | inr y => rfl
  | inr x =>
    cases b with
    | inl j => rfl
    | inr y =>
      show (x == y) = _
      rw [key_rr]
      by_cases e : x = y
      · subst e; simp
      · rw [decide_eq_false e]; exact beq_eq_false_iff_ne.mpr e
theorem eqvL_keys : ∀ a b : List Key, D.eqvL (a.map keyD) (b.map keyD) = decide (a = b)
  | [], [] => rfl
  | [], _ :: _ => by rw [decide_eq_false (fun e => nomatch e)]; rfl
  | _ :: _, [] => by rw [decide_eq_false (fun e => nomatch e)]; rfl
  | x :: xs, y :: ys => by
    show (D.eqv (keyD x) (keyD y) && D.eqvL (xs.map keyD) (ys.map keyD)) = _
    rw [eqv_key, eqvL_keys xs ys, ← Bool.decide_and]
    exact decide_eq_decide.mpr (by rw [List.cons.injEq])
theorem denL_keys {T : Tb} {m : Wd} : ∀ {ds : List D} {ks : List Key}, DenL T m ds (ks.map kV) → ds = ks.map keyD
  | [], [], _ => rfl
  | [], k :: ks, h => by
    have e : (k :: ks).map kV = [] := h
    cases e
  | d :: ds, [], ⟨v, vs, e, _, _⟩ => by cases e
  | d :: ds, k :: ks, ⟨v, vs, e, a, l⟩ => by
    rw [List.map_cons, List.cons.injEq] at e
    obtain ⟨e1, e2⟩ := e
    rw [← e1] at a
    rw [← e2] at l
    rw [List.map_cons, den_key a, denL_keys l]
theorem isT_keys {T : Tb} {m : Wd} : ∀ {ds : List D} {xs : List V}, ds.all isK = true → DenL T m ds xs → ∃ ks : List Key, ds = ks.map keyD ∧ xs = ks.map kV
  | [], xs, _, h => ⟨[], rfl, h⟩
  | d :: ds, xs, hd, ⟨v, vs, e, a, l⟩ => by
    rw [List.all_cons, Bool.and_eq_true] at hd
    obtain ⟨k, rfl⟩ := isK_key hd.1
    obtain ⟨ks, h1, h2⟩ := isT_keys hd.2 l
    refine ⟨k :: ks, by rw [h1]; rfl, ?_⟩
    rw [e, key_den a, h2]
    rfl
section
variable {T : Tb} {m : Wd}
theorem dk_look {k : Key} : ∀ {kvs : List (D × D)} {ys : List (Key × V)}, DenK T m kvs ys → match lookD kvs (keyD k) with
    | none => valV ys k = none
    | some d => ∃ v, valV ys k = some v ∧ Den T m d v
  | [], ys, h => by
    have e : ys = [] := h
    rw [e]
    exact valV_nil
  | (p1, p2) :: r, ys, ⟨q, qs, e, ab, l⟩ => by
    rw [e]
    obtain ⟨a, b⟩ := ab
    have ep : p1 = keyD q.1 := den_key a
    have ih := dk_look (k := k) l
    unfold lookD
    dsimp only
    rw [ep, eqv_key]
    by_cases z : q.1 = k
    · rw [decide_eq_true z, if_pos rfl]
      exact ⟨q.2, valV_pos z, b⟩
    · rw [decide_eq_false z, if_neg Bool.false_ne_true, valV_neg z]
      exact ih
theorem dt_look {k : List Key} : ∀ {kvs : List (D × D)} {ys : List (List Key × V)}, DenT T m kvs ys → match lookD kvs (.tup (k.map keyD)) with
    | none => valV ys k = none
    | some d => ∃ v, valV ys k = some v ∧ Den T m d v
  | [], ys, h => by
    have e : ys = [] := h
    rw [e]
    exact valV_nil
  | (.tup ds, d) :: r, ys, ⟨q, qs, e, ab, l⟩ => by
    rw [e]
    obtain ⟨a, b⟩ := ab
    have ep : ds = q.1.map keyD := denL_keys a
    have ih := dt_look (k := k) l
    unfold lookD
    dsimp only
    rw [ep, show D.eqv (.tup (q.1.map keyD)) (.tup (k.map keyD)) = D.eqvL (q.1.map keyD) (k.map keyD) from rfl, eqvL_keys]
    by_cases z : q.1 = k
    · rw [decide_eq_true z, if_pos rfl]
      exact ⟨q.2, valV_pos z, b⟩
    · rw [decide_eq_false z, if_neg Bool.false_ne_true, valV_neg z]
      exact ih
  | (.non, d) :: r, ys, ⟨q, qs, e, a, l⟩ => a.elim
  | (.bl _, d) :: r, ys, ⟨q, qs, e, a, l⟩ => a.elim
  | (.int _, d) :: r, ys, ⟨q, qs, e, a, l⟩ => a.elim
  | (.str _, d) :: r, ys, ⟨q, qs, e, a, l⟩ => a.elim
  | (.obj _, d) :: r, ys, ⟨q, qs, e, a, l⟩ => a.elim
  | (.g _, d) :: r, ys, ⟨q, qs, e, a, l⟩ => a.elim
  | (.scr _, d) :: r, ys, ⟨q, qs, e, a, l⟩ => a.elim
def LookOk (T : Tb) (m : Wd) (r : Option D) (z : Option V) : Prop := match r with
  | none => z = none
  | some d => ∃ v, z = some v ∧ Den T m d v
/-- a dict is asked -/
theorem rdK_at {H : Hp} {o : O} {p : Addr} {a : D} {r : Option D} {y : V} (k : ∀ p o, m.F p = some o → H p = some o) (dn : DenO T m H true o p) (da : Den T m a y) (h : rdK o a = some r) :
    ∃ z, DGet H p y z ∧ LookOk T m r z := by
  cases o with
  | dK kvs =>
    obtain ⟨ys, hp, l⟩ := dn
    have h' : (if isK a then some (lookD kvs a) else none) = some r := h
    split at h'
    · rename_i hk
      cases h'
      obtain ⟨c, rfl⟩ := isK_key hk
      have q := dk_look (k := c) l
      rw [key_den da]
      refine ⟨_, DGet.k hp, ?_⟩
      cases e : lookD kvs (keyD c) with
      | none => rw [e] at q; exact q
      | some d => rw [e] at q; exact q
    · cases h'
  | dT kvs =>
    obtain ⟨ys, hp, l⟩ := dn
    have h' : (if isT a then some (lookD kvs a) else none) = some r := h
    split at h'
    · rename_i hk
      cases h'
      cases a with
      | tup ds =>
        obtain ⟨b, xs, rfl, hb, dl⟩ := da
        obtain ⟨c, rfl, rfl⟩ := isT_keys hk dl
        have q := dt_look (k := c) l
        refine ⟨_, DGet.t hp (k _ _ hb), ?_⟩
        cases e : lookD kvs (.tup (c.map keyD)) with
        | none => rw [e] at q; exact q
        | some d => rw [e] at q; exact q
      | _ => cases hk
    · cases h'
  | _ => cases h
theorem LookOk.isSome {r : Option D} {z : Option V} (h : LookOk T m r z) : z.isSome = r.isSome := by
  cases r with
  | none =>
    have e : z = none := h
    rw [e]
    rfl
  | some d =>
    obtain ⟨v', h', _⟩ := h
    rw [h']
    rfl
def D.isNon : D → Bool
  | .non => true
  | _ => false
theorem den_non : ∀ {d : D} {x : V}, Den T m d x → decide (x = V.non) = d.isNon
  | .non, x, h => by rw [show x = .non from h]; rfl
  | .bl b, x, h => by rw [show x = .bl b from h]; rfl
  | .int b, x, h => by rw [show x = .int b from h]; rfl
  | .str b, x, h => by rw [show x = .str b from h]; rfl
  | .tup b, x, ⟨p, xs, e, _⟩ => by rw [e]; rfl
  | .obj b, x, ⟨p, e, _⟩ => by rw [e]; rfl
  | .g b, x, ⟨p, e, _⟩ => by rw [e]; rfl
  | .scr b, x, ⟨p, e, _⟩ => by rw [e]; rfl
end
/-! ### comparisons -/
theorem reads_of {X : Cx} {T : Tb} (hK : X.K = T.K) {pins : List (Addr × Obj)} {σ : L2.St} {H : Hp} {s : Shared} (I : Inv X pins σ H s) {m : Wd} (k : ∀ p o, m.F p = some o → H p = some o) {d : D} {n : Nat} {x : V} {v : Value} (dn : Den T m d x) (hd : d.dat n = true) (rx : RelV x v) :
    ∃ as, Reads s.heap v d.toP as := by
  have q := Den.dp k d n x hd dn
  rw [← hK] at q
  exact Dp.reads I d.toP x v q rx
def rCmp (T : Tb) (op : COp) : R2 := fun x y H Q => ∃ Rs m G e σ d1 d2 k, RlG T Rs m G H ∧ RlS T Rs m e σ H ∧ Den T m d1 x ∧ Den T m d2 y ∧ cmpop e G op d1 d2 = some k ∧ Q (.bl k) H
theorem room2 {u : Nat} {a b : PyData} (hu : u + 64 < cLine) (h : a.depth ≤ 60) : u + min a.depth b.depth < cLine := by
  have := Nat.min_le_left a.depth b.depth
  omega
theorem op_cmp {X : Cx} {T : Tb} (hK : X.K = T.K) (hu : X.A.units + 64 < cLine) : ∀ op : COp, OpR X (compareOp op.py) (rCmp T op) := by
  intro op pins s σ H x y v u Q I rx ry h
  obtain ⟨Rs, m, G, e, σ0, d1, d2, k, g, sl, n1, n2, hb, q⟩ := h
  have ord : D.cmpb d1 d2 = true → (∃ as bs, Reads s.heap v d1.toP as ∧ Reads s.heap u d2.toP bs) ∧ PySem.W.alike d1.toP d2.toP = true ∧ d1.toP ≠ .none ∧ X.A.units + min d1.toP.depth d2.toP.depth < cLine ∧ D.lt d1 d2 = PySem.W.dataLt d1.toP d2.toP ∧ D.lt d2 d1 = PySem.W.dataLt d2.toP d1.toP := fun hc => by
    unfold D.cmpb at hc
    simp only [Bool.and_eq_true] at hc
    obtain ⟨⟨⟨c1, c2⟩, c3⟩, c4⟩ := hc
    obtain ⟨as, r1⟩ := reads_of hK I g.fz n1 c3 rx
    obtain ⟨bs, r2⟩ := reads_of hK I g.fz n2 c4 ry
    have al := alk_toP d1 d2 _ _ c3 c4
    rw [c1] at al
    have al2 : PySem.W.alike d2.toP d1.toP = true := by rw [PySem.W.alike_comm]; exact al.symm
    have hn : d1.toP ≠ .none := fun z => by
      cases d1 with
      | non => cases c2
      | obj o =>
        cases o with
        | lst _ => cases z
        | _ => cases c3
      | g _ => cases c3
      | scr _ => cases c3
      | _ => cases z
    have h3 : D.alk d2 d1 = true := by rw [alk_toP d2 d1 _ _ c4 c3]; exact al2
    exact ⟨⟨as, bs, r1, r2⟩, al.symm, hn, room2 hu (dat_plain d1 _ c3).2, lt_toP d1 d2 _ _ c3 c4 c1, lt_toP d2 d1 _ _ c4 c3 h3⟩
  have tt : ∀ {b : Bool}, (∀ z, z = k → Q (.bl z) H) := fun z e => by rw [e]; exact q
  cases op with
  | eq =>
    have h' : (if D.dat d1 deep && D.dat d2 deep then some (D.eqv d1 d2) else none) = some k := hb
    split at h'
    · rename_i hc
      cases h'
      rw [Bool.and_eq_true] at hc
      obtain ⟨as, r1⟩ := reads_of hK I g.fz n1 hc.1 rx
      obtain ⟨bs, r2⟩ := reads_of hK I g.fz n2 hc.2 ry
      obtain ⟨p1, p2⟩ := dat_plain d1 _ hc.1
      rw [eqv_toP d1 d2 _ _ hc.1 hc.2] at q
      exact PySem.SeqAt.eq_plain r1 r2 p1 (dat_plain d2 _ hc.2).1 (room2 hu p2) ⟨.bl _, H, I, rfl, q⟩
    · cases h'
  | ne =>
    have h' : (if D.dat d1 deep && D.dat d2 deep then some (!D.eqv d1 d2) else none) = some k := hb
    split at h'
    · rename_i hc
      cases h'
      rw [Bool.and_eq_true] at hc
      obtain ⟨as, r1⟩ := reads_of hK I g.fz n1 hc.1 rx
      obtain ⟨bs, r2⟩ := reads_of hK I g.fz n2 hc.2 ry
      obtain ⟨p1, p2⟩ := dat_plain d1 _ hc.1
      rw [eqv_toP d1 d2 _ _ hc.1 hc.2] at q
      exact PySem.SeqAt.ne_plain r1 r2 p1 (dat_plain d2 _ hc.2).1 (room2 hu p2) ⟨.bl _, H, I, rfl, q⟩
    · cases h'
  | lt =>
    have h' : (if D.cmpb d1 d2 then some (D.lt d1 d2) else none) = some k := hb
    split at h'
    · rename_i hc
      cases h'
      obtain ⟨⟨as, bs, r1, r2⟩, al, hn, hr, l1, l2⟩ := ord hc
      rw [l1] at q
      exact PySem.W.lt_data r1 r2 al hn hr ⟨.bl _, H, I, rfl, q⟩
    · cases h'
  | gt =>
    have h' : (if D.cmpb d1 d2 then some (D.lt d2 d1) else none) = some k := hb
    split at h'
    · rename_i hc
      cases h'
      obtain ⟨⟨as, bs, r1, r2⟩, al, hn, hr, l1, l2⟩ := ord hc
      rw [l2] at q
      exact PySem.W.gt_data r1 r2 al hn hr ⟨.bl _, H, I, rfl, q⟩
    · cases h'
  | le =>
    have h' : (if D.cmpb d1 d2 then some (!D.lt d2 d1) else none) = some k := hb
    split at h'
    · rename_i hc
      cases h'
      obtain ⟨⟨as, bs, r1, r2⟩, al, hn, hr, l1, l2⟩ := ord hc
      rw [l2] at q
      exact PySem.W.le_data r1 r2 al hn hr ⟨.bl _, H, I, rfl, q⟩
    · cases h'
  | ge =>
    have h' : (if D.cmpb d1 d2 then some (!D.lt d1 d2) else none) = some k := hb
    split at h'
    · rename_i hc
      cases h'
      obtain ⟨⟨as, bs, r1, r2⟩, al, hn, hr, l1, l2⟩ := ord hc
      rw [l1] at q
      exact PySem.W.ge_data r1 r2 al hn hr ⟨.bl _, H, I, rfl, q⟩
    · cases h'
  | isN =>
    cases d2 with
    | non =>
      obtain rfl := n2
      have h' : some d1.isNon = some k := by rw [← hb]; cases d1 <;> rfl
      refine op_isN pins s σ H _ _ v u Q I rx ry ⟨rfl, ?_⟩
      rw [den_non n1, Option.some.inj h']
      exact q
    | _ => cases hb
  | isNt =>
    cases d2 with
    | non =>
      obtain rfl := n2
      have h' : some (!d1.isNon) = some k := by rw [← hb]; cases d1 <;> rfl
      refine op_notN pins s σ H _ _ v u Q I rx ry ⟨rfl, ?_⟩
      rw [den_non n1, Option.some.inj h']
      exact q
    | _ => cases hb
  | mem => cases hb
  | nmem => cases hb
  | dmem => cases hb
  | dnmem => cases hb
/-! ### in -/
def rMem (T : Tb) (neg : Bool) : R2 := fun x y H Q => ∃ Rs m G e σ d1 w k, RlG T Rs m G H ∧ RlS T Rs m e σ H ∧ Den T m d1 x ∧ DenW T Rs m e σ H w y ∧ memop e G d1 w = some k ∧ Q (.bl (if neg then !k else k)) H
theorem any_eqv {a : D} {n k : Nat} (ha : a.dat k = true) : ∀ xs : List D, D.datL xs n = true → (xs.any fun x => D.eqv x a) = (D.toPL xs).any fun y => PyData.eqv y a.toP
  | [], _ => rfl
  | x :: xs, h => by
    obtain ⟨h1, h2⟩ := Bool.and_eq_true_iff.mp (show (x.dat n && D.datL xs n) = true from h)
    show (D.eqv x a || xs.any fun x => D.eqv x a) = (PyData.eqv x.toP a.toP || (D.toPL xs).any fun y => PyData.eqv y a.toP)
    rw [eqv_toP x a _ _ h1 ha, any_eqv ha xs h2]
theorem op_mem {X : Cx} {T : Tb} (hK : X.K = T.K) (hu : X.A.units + 64 < cLine) (neg : Bool) : OpR X (compareOp (if neg then .NotIn else .In)) (rMem T neg) := by
  intro pins s σ H x y v u Q I rx ry h
  obtain ⟨Rs, m, G, e, σ0, d1, w, k, g, sl, n1, n2, hb, q⟩ := h
  have gen : ∀ w : W, DenW T Rs m e σ0 H w y → (match rdL e G w with
      | some xs => if D.dat d1 deep && D.datL xs deep then some (xs.any fun x => D.eqv x d1) else none
      | none => (match rdO e G w with
        | some o => (rdK o d1).map (·.isSome)
        | none => none)) = some k → wpAny (model X.prog X.w) X.A (compareOp (if neg then .NotIn else .In) v u) (EP X pins σ Q) X.xe s := fun w n2 hb => by
    cases e1 : rdL e G w with
    | some xs =>
      rw [e1] at hb
      dsimp only at hb
      split at hb
      · rename_i hc
        cases hb
        rw [Bool.and_eq_true] at hc
        obtain ⟨c1, c2⟩ := hc
        obtain ⟨p, as, rfl, l, rd⟩ := rdL_at g sl n2 e1
        obtain ⟨bs, r1⟩ := reads_of hK I g.fz n1 c1 rx
        have dl := DenL.dp (T := T) g.fz xs _ as c2 l
        rw [← hK] at dl
        obtain ⟨p1, p2⟩ := dat_plain d1 _ c1
        obtain ⟨p3, p4⟩ := datL_plain xs _ c2
        have hr : X.A.units + 1 + min (PyData.depthAll (D.toPL xs)) d1.toP.depth < cLine := by
          have := Nat.min_le_right (PyData.depthAll (D.toPL xs)) d1.toP.depth
          have h6 : d1.toP.depth ≤ 60 := p2
          omega
        rw [any_eqv c1 xs c2] at q
        cases neg with
        | false =>
          rcases rd with rd | rd
          · rw [← hK] at rd
            obtain ⟨cs, rc⟩ := Dp.reads I (.list (D.toPL xs)) _ u (.lst rd dl) ry
            exact PySem.SeqAt.in_list_data rc r1 p3 p1 hr ⟨.bl _, H, I, rfl, q⟩
          · rw [← hK] at rd
            obtain ⟨cs, rc⟩ := Dp.reads I (.tuple (D.toPL xs)) _ u (.tup rd dl) ry
            exact PySem.SeqAt.in_tuple_data rc r1 p3 p1 hr ⟨.bl _, H, I, rfl, q⟩
        | true =>
          rcases rd with rd | rd
          · rw [← hK] at rd
            obtain ⟨cs, rc⟩ := Dp.reads I (.list (D.toPL xs)) _ u (.lst rd dl) ry
            exact PySem.SeqAt.notIn_list_data rc r1 p3 p1 hr ⟨.bl _, H, I, rfl, q⟩
          · rw [← hK] at rd
            obtain ⟨cs, rc⟩ := Dp.reads I (.tuple (D.toPL xs)) _ u (.tup rd dl) ry
            exact PySem.SeqAt.notIn_tuple_data rc r1 p3 p1 hr ⟨.bl _, H, I, rfl, q⟩
      · cases hb
    | none =>
      rw [e1] at hb
      dsimp only at hb
      cases e2 : rdO e G w with
      | none => rw [e2] at hb; cases hb
      | some o =>
        rw [e2] at hb
        dsimp only at hb
        cases e3 : rdK o d1 with
        | none => rw [e3] at hb; cases hb
        | some r =>
          rw [e3] at hb
          cases hb
          obtain ⟨p, rfl, dn⟩ := rdO_at g sl n2 e2
          obtain ⟨z, dg, hz⟩ := rdK_at g.fz dn n1 e3
          have ez : z.isSome = r.isSome := hz.isSome
          obtain rfl : u = Value.ref p := ry
          have hu1 : X.A.units + 1 < cLine := by omega
          cases neg with
          | false =>
            refine d_in hu1 I dg rx fun s' I' => ⟨.bl _, H, I', rfl, ?_⟩
            rw [ez]; exact q
          | true =>
            refine d_notIn hu1 I dg rx fun s' I' => ⟨.bl _, H, I', rfl, ?_⟩
            rw [ez]; exact q
  unfold memop at hb
  split at hb
  · split at hb
    · cases hb
      obtain rfl := n1
      have n2' : y = .str _ := n2
      subst n2'
      cases neg with
      | false => exact op_in_str pins s σ H _ _ v u Q I rx ry ⟨_, _, rfl, rfl, q⟩
      | true => exact op_notin_str pins s σ H _ _ v u Q I rx ry ⟨_, _, rfl, rfl, q⟩
    · cases hb
  · exact gen w n2 hb
end Mn
/-! Mn8: a rule for each expression, over what its parts yield. -/
namespace Mn
open PySem PySem.Spec PyProof.Rows L2
/-- what stands still whatever comes -/
def DenS (T : Tb) (m : Wd) (σ : L2.St) : W → V → Prop
  | .d x, v => Den T m x v
  | .f _, _ => False
  | .b i, v => σ[i]? = some (some v)
  | .k ds, v => ∃ p xs, v = .ref p ∧ SqT T.K (fun _ => none) p xs ∧ DenL T m ds xs
section
variable {T : Tb} {Rs : Hp} {Wx : WX} {m : Wd} {σ : L2.St} {G : List O} {e : List S} {H : Hp} {X : Cx}
theorem DenS.toW {w : W} {v : V} (h : DenS T m σ w v) : DenW T Rs m e σ H w v := by
  cases w with
  | f o => exact h.elim
  | _ => exact h
theorem DenS.mono {m' : Wd} {w : W} {v : V} (h : DenS T m σ w v) (l : m.le m') : DenS T m' σ w v := by
  cases w with
  | d x => exact Den.mono l x v h
  | f o => exact h.elim
  | b i => exact h
  | k ds => obtain ⟨p, xs, a, b, c⟩ := h; exact ⟨p, xs, a, b, DenL.mono l ds xs c⟩
theorem soft_ok {w : W} {v : V} (g : RlG T Rs m G H) (s : RlS T Rs m e σ H) (dw : DenW T Rs m e σ H w v) : ∃ m', m.le m' ∧ RlG T Rs m' G H ∧ RlS T Rs m' e σ H ∧ DenS T m' σ w.soft v := by
  cases w with
  | d x => exact ⟨m, Wd.le.refl m, g, s, dw⟩
  | f o =>
    obtain ⟨m', a, b, c, d⟩ := toD_ok (d := .obj o) g s dw rfl
    exact ⟨m', a, b, c, d⟩
  | b i => exact ⟨m, Wd.le.refl m, g, s, dw⟩
  | k ds => exact ⟨m, Wd.le.refl m, g, s, dw⟩
/-- .. a value that is asked softly -/
def tW (T : Tb) (Wx : WX) (r : List S → List O → R W) : TE := fun σ H Q => ∃ Rs m G e, RlG T Rs m G H ∧ RlS T Rs m e σ H ∧ OkR T Rs Wx m σ (r e G) fun w m' e' G' H' => ∀ v, DenS T m' σ w v → Q v H'
theorem tE_of_tW {r : List S → List O → R W} {σ : L2.St} {H : Hp} {Q : VK} (h : tW T Wx (fun e G => (r e G).soft) σ H Q) : tE T Wx r σ H Q := by
  obtain ⟨Rs, m, G, e, g, s, h⟩ := h
  refine ⟨Rs, m, G, e, g, s, OkR.thn h fun w m1 e1 G1 H1 le g1 s1 h1 v dw => ?_⟩
  obtain ⟨m2, l2, g2, s2, ds⟩ := soft_ok g1 s1 dw
  exact h1 m2 H1 l2 g2 s2 v ds
/-- a truth value -/
theorem tE_of_tBo {r : List S → List O → R W} {σ : L2.St} {H : Hp} {Q : VK} (h : tBo T Wx (fun e G => (r e G).toB) σ H fun b H' => Q (.bl b) H') : tE T Wx r σ H Q := by
  obtain ⟨Rs, m, G, e, g, s, h⟩ := h
  refine ⟨Rs, m, G, e, g, s, OkR.thn h fun w m1 e1 G1 H1 le g1 s1 h1 v dw => ?_⟩
  cases w with
  | d x =>
    cases x with
    | bl b =>
      have ev : v = .bl b := dw
      rw [ev]
      exact h1 m1 H1 (Wd.le.refl _) g1 s1
    | _ => exact h1.elim
  | _ => exact h1.elim
abbrev Ev : Type := List S → List O → R W
theorem x_var {i : Nat} {x : Str} {pos : Pos} (hN : X.N[i]? = some x) (hv : Vis X.env.scope x) (hd : (x == ("__debug__" : Str)) = false) (hcd : (x == ("__classdict__" : Str)) = false) :
    PE X (.Name x pos) (tE T Wx fun e G => match e[i]? with | some (.d x) => .ok (.d x) e G | _ => .no) := by
  refine PE.imp (pe_var hN hv hd hcd) fun σ H Q ⟨Rs, m, G, e, g, s, h⟩ => ?_
  dsimp only at h
  cases q : e[i]? with
  | none => rw [q] at h; exact h.elim
  | some z =>
    rw [q] at h
    cases z with
    | d y =>
      obtain ⟨v, h1, h2⟩ := s.d i y q
      exact ⟨v, h1, h m H (Wd.le.refl m) g s v h2⟩
    | _ => exact h.elim
theorem x_own {i : Nat} {x : Str} {pos : Pos} (hN : X.N[i]? = some x) (hv : Vis X.env.scope x) (hd : (x == ("__debug__" : Str)) = false) (hcd : (x == ("__classdict__" : Str)) = false) :
    PE X (.Name x pos) (tE T Wx fun e G => match e[i]? with | some (.own _) => .ok (.b i) e G | _ => .no) := by
  refine PE.imp (pe_var hN hv hd hcd) fun σ H Q ⟨Rs, m, G, e, g, s, h⟩ => ?_
  dsimp only at h
  cases q : e[i]? with
  | none => rw [q] at h; exact h.elim
  | some z =>
    rw [q] at h
    cases z with
    | own o =>
      obtain ⟨p, h1, _⟩ := s.o i o q
      exact ⟨_, h1, h m H (Wd.le.refl m) g s _ h1⟩
    | _ => exact h.elim
theorem x_c {d : D} {c : V} {ex : Expr} (h : PE X ex (tC c)) (hd : ∀ m, Den T m d c) : PE X ex (tE T Wx fun e G => .ok (.d d) e G) :=
  PE.imp h fun σ H Q ⟨Rs, m, G, e, g, s, h⟩ => h m H (Wd.le.refl m) g s c (hd m)
theorem x_glb {w : W} {x : Str} {v : V} {u : Value} {pos : Pos} (hg : Gl X x) (hm : X.mg x = some u) (r : RelV v u) (hd : (x == ("__debug__" : Str)) = false) (dw : ∀ Rs m e σ H, DenW T Rs m e σ H w v) : PE X (.Name x pos) (tE T Wx fun e G => .ok w e G) :=
  PE.imp (pe_glob hg hm r hd) fun σ H Q ⟨Rs, m, G, e, g, s, h⟩ => h m H (Wd.le.refl m) g s v (dw _ _ _ _ _)
theorem x_tup {es : List Expr} {n : Nat} {pos : Pos} {r : List S → List O → R (List D)} (h : PA X es (tDs T Wx r)) (hl : es.length ≤ sizeLine) (hlen : ∀ e G xs e' G', r e G = .ok xs e' G' → xs.length = es.length) :
    PE X (.Tuple es n pos) (tE T Wx fun e G => (r e G).bind fun xs e G => .ok (.d (.tup xs)) e G) := by
  refine PE.imp (pe_tup h) fun σ H Q ⟨Rs, m, G, e, g, s, h⟩ => ⟨Rs, m, G, e, g, s, ?_⟩
  dsimp only at h
  cases q : r e G with
  | no => rw [q] at h; exact h
  | ex x e' G' => rw [q] at h; exact h
  | ok xs e' G' =>
    rw [q] at h
    intro m1 H1 l1 g1 s1 vs dl
    refine ⟨by rw [← dl.length, hlen _ _ _ _ _ q]; exact hl, fun p hp => ?_⟩
    obtain ⟨m2, l2, g2, s2, dn⟩ := new_tup g1 s1 hp dl
    exact h m2 _ (l1.trans l2) g2 s2 _ dn
theorem x_lst {es : List Expr} {pos : Pos} {r : List S → List O → R (List D)} (h : PA X es (tDs T Wx r)) (hl : es.length ≤ sizeLine) (hlen : ∀ e G xs e' G', r e G = .ok xs e' G' → xs.length = es.length) :
    PE X (.List es pos) (tE T Wx fun e G => (r e G).bind fun xs e G => .ok (.f (.lst xs)) e G) := by
  refine PE.imp (pe_lst h) fun σ H Q ⟨Rs, m, G, e, g, s, h⟩ => ⟨Rs, m, G, e, g, s, ?_⟩
  dsimp only at h
  cases q : r e G with
  | no => rw [q] at h; exact h
  | ex x e' G' => rw [q] at h; exact h
  | ok xs e' G' =>
    rw [q] at h
    intro m1 H1 l1 g1 s1 vs dl
    refine ⟨by rw [← dl.length, hlen _ _ _ _ _ q]; exact hl, fun p hp => ?_⟩
    obtain ⟨g2, s2, dn⟩ := new_lst g1 s1 hp dl
    exact h m1 _ l1 g2 s2 _ dn
theorem a_nil : PA X [] (tDs T Wx fun e G => .ok [] e G) :=
  PA.imp pa_nil fun σ H Q ⟨Rs, m, G, e, g, s, h⟩ => h m H (Wd.le.refl m) g s [] rfl
theorem a_cons {e : Expr} {es : List Expr} {ra : Ev} {rs : List S → List O → R (List D)} (ha : PE X e (tE T Wx ra)) (hs : PA X es (tDs T Wx rs)) (hst : starEach (e :: es) X.env = (false, eval e X.env) :: starEach es X.env) :
    PA X (e :: es) (tDs T Wx fun e G => (ra e G).toD.bind fun x e G => (rs e G).bind fun xs e G => .ok (x :: xs) e G) := by
  refine PA.imp (pa_cons (PE.imp ha fun _ _ _ => tE_of_tD) hs hst) fun σ H Q ⟨Rs, m, G, e, g, s, h⟩ => ⟨Rs, m, G, e, g, s, OkR.thn h fun d1 m1 e1 G1 H1 l1 g1 s1 h1 v1 dn1 => ⟨Rs, m1, G1, e1, g1, s1, OkR.thn h1 fun ds m2 e2 G2 H2 l2 g2 s2 h2 vs dl => ?_⟩⟩
  exact h2 m2 H2 (Wd.le.refl m2) g2 s2 (v1 :: vs) ⟨v1, vs, rfl, Den.mono l2 d1 v1 dn1, dl⟩
theorem x_bin (hK : X.K = T.K) {op : BOp} {a b : Expr} {pos : Pos} {ra rb : Ev} (ha : PE X a (tE T Wx ra)) (hb : PE X b (tE T Wx rb)) :
    PE X (.BinOp a op.py b pos) (tE T Wx fun e G => (ra e G).toD.bind fun x e G => (rb e G).toD.bind fun y e G => toR (binop e G op x y) e G) := by
  refine PE.imp (pe_op (op_bin hK op) (PE.imp ha fun _ _ _ => tE_of_tD) (PE.imp hb fun _ _ _ => tE_of_tD)) fun σ H Q ⟨Rs, m, G, e, g, s, h⟩ =>
    ⟨Rs, m, G, e, g, s, OkR.thn h fun d1 m1 e1 G1 H1 l1 g1 s1 h1 v1 dn1 => ⟨Rs, m1, G1, e1, g1, s1, OkR.thn h1 fun d2 m2 e2 G2 H2 l2 g2 s2 h2 v2 dn2 => ?_⟩⟩
  cases q : binop e2 G2 op d1 d2 with
  | none => rw [q] at h2; exact h2.elim
  | some w =>
    rw [q] at h2
    exact ⟨Rs, m2, G2, e2, σ, d1, d2, w, g2, s2, Den.mono l2 d1 v1 dn1, dn2, q, fun v m' H' l g' s' dw => h2 m' H' l g' s' v dw⟩
theorem x_neg {a : Expr} {pos : Pos} {ra : Ev} (ha : PE X a (tE T Wx ra)) :
    PE X (.UnaryOp .USub a pos) (tE T Wx fun e G => (ra e G).toD.bind fun x e G => (match x with | .int i => .ok (.d (.int (-i))) e G | _ => .no)) := by
  refine PE.imp (pe_un un_neg (PE.imp ha fun _ _ _ => tE_of_tD)) fun σ H Q ⟨Rs, m, G, e, g, s, h⟩ =>
    ⟨Rs, m, G, e, g, s, OkR.thn h fun d1 m1 e1 G1 H1 l1 g1 s1 h1 v1 dn1 => ?_⟩
  cases d1 with
  | int i => exact ⟨i, dn1, h1 m1 H1 (Wd.le.refl _) g1 s1 _ rfl⟩
  | _ => exact h1.elim
/-- a comparison that looks at data, or in something -/
def rCmpW (T : Tb) (op : COp) : R2 := fun x y H Q => ∃ Rs m G e σ d1 w k, RlG T Rs m G H ∧ RlS T Rs m e σ H ∧ Den T m d1 x ∧ DenW T Rs m e σ H w y ∧ cmpW e G op d1 w = some k ∧ Q (.bl k) H
theorem rCmpW_of {op : COp} (hm : op ≠ .mem) (hn : op ≠ .nmem) {x y : V} {H : Hp} {Q : VK} (h : rCmpW T op x y H Q) : ∃ H', (∀ p o, H p = some o → H' p = some o) ∧ H' = H ∧ rCmp T op x y H Q := by
  obtain ⟨Rs, m, G, e, σ, d1, w, k, g, s, n1, n2, hb, q⟩ := h
  have hb' : (toD w).bind (fun d => cmpop e G op d1 d) = some k := by
    cases op <;> first | exact hb | exact absurd rfl hm | exact absurd rfl hn
  cases ew : toD w with
  | none => rw [ew] at hb'; cases hb'
  | some d2 =>
    rw [ew] at hb'
    obtain ⟨m2, l2, g2, s2, dn2⟩ := toD_ok g s n2 ew
    exact ⟨H, fun _ _ z => z, rfl, Rs, m2, G, e, σ, d1, d2, k, g2, s2, Den.mono l2 d1 x n1, dn2, hb', q⟩
theorem op_cmpW (hK : X.K = T.K) (hu : X.A.units + 64 < cLine) (op : COp) : OpR X (compareOp op.py) (rCmpW T op) := by
  intro pins s σ H x y v u Q I rx ry h
  by_cases hm : op = .mem
  · subst hm
    obtain ⟨Rs, m, G, e, σ, d1, w, k, g, s', n1, n2, hb, q⟩ := h
    exact op_mem (T := T) hK hu false pins s _ H x y v u Q I rx ry ⟨Rs, m, G, e, σ, d1, w, k, g, s', n1, n2, hb, q⟩
  · by_cases hn : op = .nmem
    · subst hn
      obtain ⟨Rs, m, G, e, σ, d1, w, k, g, s', n1, n2, hb, q⟩ := h
      have hb' : (memop e G d1 w).map (!·) = some k := hb
      cases em : memop e G d1 w with
      | none => rw [em] at hb'; cases hb'
      | some k' =>
        rw [em] at hb'
        cases hb'
        exact op_mem (T := T) hK hu true pins s _ H x y v u Q I rx ry ⟨Rs, m, G, e, σ, d1, w, k', g, s', n1, n2, em, q⟩
    · obtain ⟨H', _, _, hh⟩ := rCmpW_of hm hn h
      exact op_cmp hK hu op pins s σ H x y v u Q I rx ry hh
def evCmp (op : COp) (ra rb : Ev) : Ev := fun e G => (ra e G).toD.bind fun x e G => (rb e G).bind fun y e G => (match cmpW e G op x y with | some k => .ok (.d (.bl k)) e G | none => .no)
theorem tCmp {op : COp} {ra rb : Ev} {σ : L2.St} {H : Hp} {Q : VK} (h : tE T Wx (evCmp op ra rb) σ H Q) : tOp (rCmpW T op) (tD T Wx fun e G => (ra e G).toD) (tE T Wx rb) σ H Q := by
  obtain ⟨Rs, m, G, e, g, s, h⟩ := h
  refine ⟨Rs, m, G, e, g, s, OkR.thn h fun d1 m1 e1 G1 H1 l1 g1 s1 h1 v1 dn1 => ⟨Rs, m1, G1, e1, g1, s1, OkR.thn h1 fun w m2 e2 G2 H2 l2 g2 s2 h2 v2 dw => ?_⟩⟩
  cases q : cmpW e2 G2 op d1 w with
  | none => rw [q] at h2; exact h2.elim
  | some k =>
    rw [q] at h2
    exact ⟨Rs, m2, G2, e2, σ, d1, w, k, g2, s2, Den.mono l2 d1 v1 dn1, dw, q, h2 m2 H2 (Wd.le.refl _) g2 s2 _ rfl⟩
theorem x_cmp (hK : X.K = T.K) (hu : X.A.units + 64 < cLine) {op : COp} {a b : Expr} {pos : Pos} {ra rb : Ev} (ha : PE X a (tE T Wx ra)) (hb : PE X b (tE T Wx rb)) (hm : behindInMarks op.py b = false) :
    PE X (.Compare a [op.py] [b] pos) (tE T Wx (evCmp op ra rb)) :=
  PE.imp (pe_cmpR (op_cmpW hK hu op) (PE.imp ha fun _ _ _ => tE_of_tD) hb hm) fun σ H Q => tCmp
/-- a test of something whose value is a truth value -/
theorem tBo_of {r : Ev} {σ : L2.St} {H : Hp} {Q : Bool → Hp → Prop} (h : tBo T Wx (fun e G => (r e G).toB) σ H Q) : tE T Wx r σ H fun x H' => ∃ k, x = .bl k ∧ Q k H' :=
  tE_of_tBo (by
    obtain ⟨Rs, m, G, e, g, s, h⟩ := h
    exact ⟨Rs, m, G, e, g, s, OkR.imp h fun b m' e' G' H' _ _ _ q => ⟨b, rfl, q⟩⟩)
theorem t_cmp (hK : X.K = T.K) (hu : X.A.units + 64 < cLine) {op : COp} {a b : Expr} {pos : Pos} {ra rb : Ev} (ha : PE X a (tE T Wx ra)) (hb : PE X b (tE T Wx rb)) (hm : behindInMarks op.py b = false) :
    PT X (.Compare a [op.py] [b] pos) (tBo T Wx fun e G => (evCmp op ra rb e G).toB) :=
  PT.imp (pt_cmpR (op_cmpW hK hu op) (PE.imp ha fun _ _ _ => tE_of_tD) hb hm) fun σ H Q h => tCmp (Q := fun x H' => ∃ k, x = .bl k ∧ Q k H') (tBo_of h)
/-- two comparisons in a chain -/
def evChn (o1 o2 : COp) (ra rb rc : Ev) : Ev := fun e G => (ra e G).toD.bind fun x e G => (rb e G).toD.bind fun y e G => (match cmpop e G o1 x y with
    | some true => (rc e G).toD.bind fun z e G => (match cmpop e G o2 y z with | some k => .ok (.d (.bl k)) e G | none => .no)
    | some false => .ok (.d (.bl false)) e G
    | none => .no)
theorem tChn {o1 o2 : COp} {ra rb rc : Ev} {σ : L2.St} {H : Hp} {Q : VK} (h : tE T Wx (evChn o1 o2 ra rb rc) σ H Q) : tChain (rCmp T o1) (rCmp T o2) (tD T Wx fun e G => (ra e G).toD) (tD T Wx fun e G => (rb e G).toD) (tD T Wx fun e G => (rc e G).toD) σ H Q := by
  obtain ⟨Rs, m, G, e, g, s, h⟩ := h
  refine ⟨Rs, m, G, e, g, s, OkR.thn h fun d1 m1 e1 G1 H1 l1 g1 s1 h1 v1 dn1 => ⟨Rs, m1, G1, e1, g1, s1, OkR.thn h1 fun d2 m2 e2 G2 H2 l2 g2 s2 h2 v2 dn2 => ?_⟩⟩
  cases q : cmpop e2 G2 o1 d1 d2 with
  | none => rw [q] at h2; exact h2.elim
  | some k =>
    rw [q] at h2
    refine ⟨Rs, m2, G2, e2, σ, d1, d2, k, g2, s2, Den.mono l2 d1 v1 dn1, dn2, q, k, rfl, ?_⟩
    cases k with
    | false => exact iteF (h2 m2 H2 (Wd.le.refl _) g2 s2 _ rfl)
    | true =>
      refine iteT ⟨Rs, m2, G2, e2, g2, s2, OkR.thn h2 fun d3 m3 e3 G3 H3 l3 g3 s3 h3 v3 dn3 => ?_⟩
      cases q2 : cmpop e3 G3 o2 d2 d3 with
      | none => rw [q2] at h3; exact h3.elim
      | some k2 =>
        rw [q2] at h3
        exact ⟨Rs, m3, G3, e3, σ, d2, d3, k2, g3, s3, Den.mono l3 d2 v2 dn2, dn3, q2, h3 m3 H3 (Wd.le.refl _) g3 s3 _ rfl⟩
theorem x_chn (hK : X.K = T.K) (hu : X.A.units + 64 < cLine) {o1 o2 : COp} {a b c : Expr} {pos : Pos} {ra rb rc : Ev} (ha : PE X a (tE T Wx ra)) (hb : PE X b (tE T Wx rb)) (hc : PE X c (tE T Wx rc)) (hm : lastMarks [o1.py, o2.py] [b, c] = false) :
    PE X (.Compare a [o1.py, o2.py] [b, c] pos) (tE T Wx (evChn o1 o2 ra rb rc)) :=
  PE.imp (pe_chain (op_cmp hK hu o1) (op_cmp hK hu o2) (PE.imp ha fun _ _ _ => tE_of_tD) (PE.imp hb fun _ _ _ => tE_of_tD) (PE.imp hc fun _ _ _ => tE_of_tD) hm) fun σ H Q => tChn
theorem t_chn (hK : X.K = T.K) (hu : X.A.units + 64 < cLine) {o1 o2 : COp} {a b c : Expr} {pos : Pos} {ra rb rc : Ev} (ha : PE X a (tE T Wx ra)) (hb : PE X b (tE T Wx rb)) (hc : PE X c (tE T Wx rc)) (hm : lastMarks [o1.py, o2.py] [b, c] = false) :
    PT X (.Compare a [o1.py, o2.py] [b, c] pos) (tBo T Wx fun e G => (evChn o1 o2 ra rb rc e G).toB) :=
  PT.imp (pt_chain (op_cmp hK hu o1) (op_cmp hK hu o2) (PE.imp ha fun _ _ _ => tE_of_tD) (PE.imp hb fun _ _ _ => tE_of_tD) (PE.imp hc fun _ _ _ => tE_of_tD) hm) fun σ H Q h => tChn (Q := fun x H' => ∃ k, x = .bl k ∧ Q k H') (tBo_of h)
/-! ### and, or, not -/
def evNot (ra : Ev) : Ev := fun e G => (ra e G).toB.bind fun k e G => .ok (.d (.bl (!k))) e G
def evAnd (ra rb : Ev) : Ev := fun e G => (ra e G).toB.bind fun k e G => if k then (rb e G).toB.bind fun k e G => .ok (.d (.bl k)) e G else .ok (.d (.bl false)) e G
def evOr (ra rb : Ev) : Ev := fun e G => (ra e G).toB.bind fun k e G => if k then .ok (.d (.bl true)) e G else (rb e G).toB.bind fun k e G => .ok (.d (.bl k)) e G
def evIte (rc ra rb : Ev) : Ev := fun e G => (rc e G).toB.bind fun k e G => if k then ra e G else rb e G
theorem x_not {a : Expr} {pos : Pos} {ra : Ev} (ha : PE X a (tE T Wx ra)) : PE X (.UnaryOp .Not a pos) (tE T Wx (evNot ra)) := by
  refine PE.imp (pe_not ha) fun σ H Q ⟨Rs, m, G, e, g, s, h⟩ => ?_
  refine tE_of_tBo ⟨Rs, m, G, e, g, s, OkR.thn h fun k m1 e1 G1 H1 l1 g1 s1 h1 => ⟨k, rfl, h1 m1 H1 (Wd.le.refl _) g1 s1 _ rfl⟩⟩
theorem t_not {a : Expr} {pos : Pos} {ra : Ev} (ha : PT X a (tBo T Wx fun e G => (ra e G).toB)) : PT X (.UnaryOp .Not a pos) (tBo T Wx fun e G => (evNot ra e G).toB) := by
  refine PT.imp (pt_not ha) fun σ H Q ⟨Rs, m, G, e, g, s, h⟩ => ⟨Rs, m, G, e, g, s, ?_⟩
  have e1 : (evNot ra e G).toB = (ra e G).toB.bind fun k e G => .ok (!k) e G := by
    unfold evNot
    cases (ra e G).toB <;> rfl
  have h' : OkR T Rs Wx m σ ((ra e G).toB.bind fun k e G => .ok (!k) e G) fun b m' e' G' H' => Q b H' := by
    rw [← e1]
    exact h
  exact OkR.thn h' fun k m1 e1 G1 H1 l1 g1 s1 h1 => h1 m1 H1 (Wd.le.refl _) g1 s1
theorem x_one {op} {a : Expr} {pos : Pos} {t : TE} (ha : PE X a t) : PE X (.BoolOp op [a] pos) t := pe_one ha
theorem x_and {a b : Expr} {rest : List Expr} {pos : Pos} {ra rb : Ev} (ha : PE X a (tE T Wx ra)) (hb : PE X (.BoolOp .And (b :: rest) pos) (tE T Wx rb)) : PE X (.BoolOp .And (a :: b :: rest) pos) (tE T Wx (evAnd ra rb)) := by
  refine PE.imp (pe_and ha hb) fun σ H Q ⟨Rs, m, G, e, g, s, h⟩ => ?_
  refine tE_of_tBo ⟨Rs, m, G, e, g, s, OkR.thn h fun k m1 e1 G1 H1 l1 g1 s1 h1 => ⟨k, rfl, ?_⟩⟩
  cases k with
  | true =>
    refine iteT (tE_of_tBo ⟨Rs, m1, G1, e1, g1, s1, OkR.thn h1 fun k m2 e2 G2 H2 l2 g2 s2 h2 => h2 m2 H2 (Wd.le.refl _) g2 s2 _ rfl⟩)
  | false => exact iteF (h1 m1 H1 (Wd.le.refl _) g1 s1 _ rfl)
theorem x_or {a b : Expr} {rest : List Expr} {pos : Pos} {ra rb : Ev} (ha : PE X a (tE T Wx ra)) (hb : PE X (.BoolOp .Or (b :: rest) pos) (tE T Wx rb)) : PE X (.BoolOp .Or (a :: b :: rest) pos) (tE T Wx (evOr ra rb)) := by
  refine PE.imp (pe_or ha hb) fun σ H Q ⟨Rs, m, G, e, g, s, h⟩ => ?_
  refine tE_of_tBo ⟨Rs, m, G, e, g, s, OkR.thn h fun k m1 e1 G1 H1 l1 g1 s1 h1 => ⟨k, rfl, ?_⟩⟩
  cases k with
  | true => exact iteT (h1 m1 H1 (Wd.le.refl _) g1 s1 _ rfl)
  | false =>
    refine iteF (tE_of_tBo ⟨Rs, m1, G1, e1, g1, s1, OkR.thn h1 fun k m2 e2 G2 H2 l2 g2 s2 h2 => h2 m2 H2 (Wd.le.refl _) g2 s2 _ rfl⟩)
theorem toB_bind {α : Type} (r : R α) (f : α → List S → List O → R W) : (r.bind f).toB = r.bind fun a e G => (f a e G).toB := by
  cases r <;> rfl
theorem toB_id (r : R Bool) : (r.bind fun k e G => (R.ok (W.d (.bl k)) e G : R W)).toB = r := by
  cases r <;> rfl
theorem w_and {a b : Expr} {rest : List Expr} {pos : Pos} {ra rb : Ev} (ha : PT X a (tBo T Wx fun e G => (ra e G).toB)) (hb : PW X (.BoolOp .And (b :: rest) pos) (tBo T Wx fun e G => (rb e G).toB)) : PW X (.BoolOp .And (a :: b :: rest) pos) (tBo T Wx fun e G => (evAnd ra rb e G).toB) := by
  refine PW.imp (pw_and ha hb) fun σ H Q ⟨Rs, m, G, e, g, s, h⟩ => ⟨Rs, m, G, e, g, s, ?_⟩
  unfold evAnd at h
  dsimp only at h
  rw [toB_bind] at h
  refine OkR.thn h fun k m1 e1 G1 H1 l1 g1 s1 h1 => ?_
  cases k with
  | true =>
    refine iteT ⟨Rs, m1, G1, e1, g1, s1, ?_⟩
    rw [if_pos rfl, toB_id] at h1
    exact h1
  | false => exact iteF (h1 m1 H1 (Wd.le.refl _) g1 s1)
theorem w_or {a b : Expr} {rest : List Expr} {pos : Pos} {ra rb : Ev} (ha : PT X a (tBo T Wx fun e G => (ra e G).toB)) (hb : PW X (.BoolOp .Or (b :: rest) pos) (tBo T Wx fun e G => (rb e G).toB)) : PW X (.BoolOp .Or (a :: b :: rest) pos) (tBo T Wx fun e G => (evOr ra rb e G).toB) := by
  refine PW.imp (pw_or ha hb) fun σ H Q ⟨Rs, m, G, e, g, s, h⟩ => ⟨Rs, m, G, e, g, s, ?_⟩
  unfold evOr at h
  dsimp only at h
  rw [toB_bind] at h
  refine OkR.thn h fun k m1 e1 G1 H1 l1 g1 s1 h1 => ?_
  cases k with
  | false =>
    refine iteF ⟨Rs, m1, G1, e1, g1, s1, ?_⟩
    rw [if_neg Bool.false_ne_true, toB_id] at h1
    exact h1
  | true => exact iteT (h1 m1 H1 (Wd.le.refl _) g1 s1)
theorem w_and1 {a : Expr} {pos : Pos} {t : TT} (ha : PT X a t) : PW X (.BoolOp .And [a] pos) t := pw_and1 ha
theorem w_or1 {a : Expr} {pos : Pos} {t : TT} (ha : PT X a t) : PW X (.BoolOp .Or [a] pos) t := pw_or1 ha
theorem t_val {a : Expr} {ra : Ev} (ha : PE X a (tE T Wx ra)) (he : ∀ whole, isTrue a X.env whole = (do let v ← whole; standAt a.pos; holding [v] (truthy v))) : PT X a (tBo T Wx fun e G => (ra e G).toB) :=
  PT.imp (pt_val ha he) fun σ H Q h => tBo_of h
theorem x_ite {c a b : Expr} {pos : Pos} {rc ra rb : Ev} (hc : PT X c (tBo T Wx fun e G => (rc e G).toB)) (ha : PE X a (tE T Wx ra)) (hb : PE X b (tE T Wx rb)) : PE X (.IfExp c a b pos) (tE T Wx (evIte rc ra rb)) := by
  refine PE.imp (pe_ifExp hc ha hb) fun σ H Q ⟨Rs, m, G, e, g, s, h⟩ => ⟨Rs, m, G, e, g, s, OkR.thn h fun k m1 e1 G1 H1 l1 g1 s1 h1 => ?_⟩
  cases k with
  | true => exact iteT ⟨Rs, m1, G1, e1, g1, s1, h1⟩
  | false => exact iteF ⟨Rs, m1, G1, e1, g1, s1, h1⟩
end
end Mn
/-! Mn9: rules of items, fields, built-in functions. -/
namespace Mn
open PySem PySem.Spec PyProof.Rows L2
section
variable {T : Tb} {Rs Rs' : Hp} {Wx : WX} {m : Wd} {σ : L2.St} {G : List O} {e : List S} {H : Hp} {X : Cx}
theorem DenL.atD {ds : List D} {xs : List V} {i : Int} {d : D} (h : DenL T m ds xs) (q : atD ds i = some d) : ∃ v, L2.atI xs i = some v ∧ Den T m d v := by
  unfold Mn.atD L2.atI at q
  unfold L2.atI
  rw [← h.length]
  cases k : L2.ixN ds.length i with
  | none => rw [k] at q; cases q
  | some j =>
    rw [k] at q
    exact h.get q
theorem sq_of {K : PySem.W.Frag} {p : Addr} {xs : List V} (h : SqL K H p xs ∨ SqT K H p xs) : SqL K H p xs ∨ SqT K H p xs := h
theorem ix_at {w : W} {i : Int} {x : D} {v : V} (g : RlG T Rs m G H) (s : RlS T Rs m e σ H) (dw : DenW T Rs m e σ H w v) (h : ixop e G w i = some x) : ∃ y, Den T m x y ∧ ∀ Q : VK, Q y H → rIx T.K v (.int i) H Q := by
  have gen : (rdL e G w).bind (fun xs => Mn.atD xs i) = some x → ∃ y, Den T m x y ∧ ∀ Q : VK, Q y H → rIx T.K v (.int i) H Q := fun h => by
    cases q : rdL e G w with
    | none => rw [q] at h; cases h
    | some ds =>
      rw [q] at h
      obtain ⟨p, xs, rfl, l, r⟩ := rdL_at g s dw q
      obtain ⟨y, hy, dy⟩ := l.atD h
      refine ⟨y, dy, fun Q hQ => ?_⟩
      rcases sq_of r with r | r
      · exact .inl ⟨p, xs, i, y, rfl, rfl, r, hy, hQ⟩
      · exact .inr (.inl ⟨p, xs, i, y, rfl, rfl, r, hy, hQ⟩)
  cases w with
  | d z =>
    cases z with
    | str z =>
      have ev : v = .str z := dw
      have h' : (if z.length ≤ sLn then (L2.atI z.cps.toList i).map fun c => D.str ⟨#[c]⟩ else none) = some x := h
      split at h'
      · rename_i hz
        cases q : L2.atI z.cps.toList i with
        | none => rw [q] at h'; cases h'
        | some c =>
          rw [q] at h'
          cases h'
          exact ⟨_, rfl, fun Q hQ => .inr (.inr ⟨z, i, c, ev, rfl, hz, q, hQ⟩)⟩
      · cases h'
    | _ => exact gen h
  | _ => exact gen h
def evIx (ra rb : Ev) : Ev := fun e G => (ra e G).soft.bind fun w e G => (rb e G).toD.bind fun y e G => (match y with
    | .int i => (match ixop e G w i with | some x => .ok (.d x) e G | none => .no)
    | _ => .no)
theorem x_ix (hK : X.K = T.K) {a b : Expr} {pos : Pos} {ra rb : Ev} (ha : PE X a (tE T Wx ra)) (hb : PE X b (tE T Wx rb)) (hs : PlainIx b) : PE X (.Subscript a b pos) (tE T Wx (evIx ra rb)) := by
  refine PE.imp (pe_ix ix_seq (PE.imp ha fun _ _ _ => tE_of_tW) (PE.imp hb fun _ _ _ => tE_of_tD) hs) fun σ H Q ⟨Rs, m, G, e, g, s, h⟩ =>
    ⟨Rs, m, G, e, g, s, OkR.thn h fun w m1 e1 G1 H1 l1 g1 s1 h1 v1 dw => ⟨Rs, m1, G1, e1, g1, s1, OkR.thn h1 fun d m2 e2 G2 H2 l2 g2 s2 h2 v2 dn => ?_⟩⟩
  cases d with
  | int i =>
    dsimp only at h2
    cases q : ixop e2 G2 w i with
    | none => rw [q] at h2; exact h2.elim
    | some x =>
      rw [q] at h2
      obtain ⟨y, dy, k⟩ := ix_at g2 s2 (dw.mono l2).toW q
      have ev : v2 = .int i := dn
      rw [ev, hK]
      exact k Q (h2 m2 H2 (Wd.le.refl _) g2 s2 y dy)
  | _ => exact h2.elim
def evDix (ra rb : Ev) : Ev := fun e G => (ra e G).soft.bind fun w e G => (rb e G).toD.bind fun y e G => (match (rdO e G w).bind fun o => rdK o y with
    | some (some x) => .ok (.d x) e G
    | _ => .no)
theorem x_dix (hu : X.A.units + 64 < cLine) {a b : Expr} {pos : Pos} {ra rb : Ev} (ha : PE X a (tE T Wx ra)) (hb : PE X b (tE T Wx rb)) (hs : NoSl b) : PE X (.Subscript a b pos) (tE T Wx (evDix ra rb)) := by
  refine PE.imp (pe_dget (by omega) (PE.imp ha fun _ _ _ => tE_of_tW) (PE.imp hb fun _ _ _ => tE_of_tD) hs) fun σ H Q ⟨Rs, m, G, e, g, s, h⟩ =>
    ⟨Rs, m, G, e, g, s, OkR.thn h fun w m1 e1 G1 H1 l1 g1 s1 h1 v1 dw => ⟨Rs, m1, G1, e1, g1, s1, OkR.thn h1 fun d m2 e2 G2 H2 l2 g2 s2 h2 v2 dn => ?_⟩⟩
  cases qo : rdO e2 G2 w with
  | none => rw [qo] at h2; exact h2.elim
  | some o =>
    cases q : rdK o d with
    | none => rw [qo] at h2; dsimp only [Option.bind] at h2; rw [q] at h2; exact h2.elim
    | some r =>
      rw [qo] at h2
      dsimp only [Option.bind] at h2
      rw [q] at h2
      cases r with
      | none => exact h2.elim
      | some x =>
        obtain ⟨p, rfl, dno⟩ := rdO_at g2 s2 (dw.mono l2).toW qo
        obtain ⟨z, dg, lk⟩ := rdK_at g2.fz dno dn q
        obtain ⟨y, rfl, dy⟩ := lk
        exact ⟨p, y, rfl, dg, h2 m2 H2 (Wd.le.refl _) g2 s2 y dy⟩
/-! ### slices -/
theorem DenL.cut {ds : List D} {xs : List V} {l h : Option Int} (q : DenL T m ds xs) : DenL T m (Mn.cut ds l h) (L2.cutV xs l h) := by
  unfold Mn.cut L2.cutV
  rw [q.length]
  exact (q.drop _).take _
def evPart (r : List S → List O → R (Option Int)) : TO := fun σ H Q => ∃ T : Tb, False
def tP (T : Tb) (Wx : WX) (r : List S → List O → R (Option Int)) : TO := fun σ H Q => ∃ Rs m G e, RlG T Rs m G H ∧ RlS T Rs m e σ H ∧ OkR T Rs Wx m σ (r e G) fun d m' e' G' H' => Q d H'
theorem PO.imp {ex : Option Expr} {t t' : TO} (h : PO X ex t) (i : ∀ σ H Q, t' σ H Q → t σ H Q) : PO X ex t' := ⟨fun pins s σ H Q I q => h.run pins s σ H Q I (i σ H Q q)⟩
theorem o_none : PO X none (tP T Wx fun e G => .ok none e G) := PO.imp po_none fun σ H Q ⟨Rs, m, G, e, g, s, h⟩ => h m H (Wd.le.refl m) g s
theorem o_some {a : Expr} {ra : Ev} (ha : PE X a (tE T Wx ra)) : PO X (some a) (tP T Wx fun e G => (ra e G).toD.bind fun x e G => (match x with | .int i => .ok (some i) e G | _ => .no)) := by
  refine PO.imp (po_some (PE.imp ha fun _ _ _ => tE_of_tD)) fun σ H Q ⟨Rs, m, G, e, g, s, h⟩ => ⟨Rs, m, G, e, g, s, OkR.thn h fun d m1 e1 G1 H1 l1 g1 s1 h1 v1 dn => ?_⟩
  cases d with
  | int i => exact ⟨i, dn, h1 m1 H1 (Wd.le.refl _) g1 s1⟩
  | _ => exact h1.elim
def rSlW (T : Tb) : V → Option Int → Option Int → Hp → VK → Prop := fun x lo hi H Q => rSlL T.K x lo hi H Q ∨ rSlA T.K x lo hi H Q ∨ rSlS x lo hi H Q
theorem sl_w (hK : X.K = T.K) : SlR X (rSlW T) := by
  have h := SlR.or (X := X) sl_list (SlR.or sl_tupA sl_str)
  rw [hK] at h
  exact h
theorem cut_all {α : Type} {xs : List α} {a b : Nat} (ha : a = 0) (hb : b = xs.length) : (xs.drop a).take (b - a) = xs := by
  subst ha hb
  simp
def evSl (ra : Ev) (rl rh : List S → List O → R (Option Int)) : Ev := fun e G => (ra e G).soft.bind fun w e G => (rl e G).bind fun l e G => (rh e G).bind fun h e G => toR (slop e G w l h) e G
theorem x_sl (hK : X.K = T.K) {a : Expr} {lo hi : Option Expr} {p2 pos : Pos} {ra : Ev} {rl rh : List S → List O → R (Option Int)} (ha : PE X a (tE T Wx ra)) (hl : PO X lo (tP T Wx rl)) (hh : PO X hi (tP T Wx rh)) :
    PE X (.Subscript a (.Slice lo hi none p2) pos) (tE T Wx (evSl ra rl rh)) := by
  refine PE.imp (pe_slice (sl_w hK) (PE.imp ha fun _ _ _ => tE_of_tW) hl hh) fun σ H Q ⟨Rs, m, G, e, g, s, h⟩ =>
    ⟨Rs, m, G, e, g, s, OkR.thn h fun w m1 e1 G1 H1 l1 g1 s1 h1 v1 dw => ⟨Rs, m1, G1, e1, g1, s1, OkR.thn h1 fun l m2 e2 G2 H2 l2 g2 s2 h2 => ⟨Rs, m2, G2, e2, g2, s2, OkR.thn h2 fun u m3 e3 G3 H3 l3 g3 s3 h3 => ?_⟩⟩⟩
  have dw3 := ((dw.mono l2).mono l3).toW (Rs := Rs) (e := e3) (H := H3)
  cases q : slop e3 G3 w l u with
  | none => rw [q] at h3; exact h3.elim
  | some r =>
    rw [q] at h3
    have lst : ∀ o, rdO e3 G3 w = some o → (match o with | .lst xs => some (W.f (.lst (Mn.cut xs l u))) | _ => none) = some r → rSlW T v1 l u H3 Q := fun o ho hr => by
      cases o with
      | lst ds =>
        cases hr
        obtain ⟨p, rfl, dno⟩ := rdO_at g3 s3 dw3 ho
        obtain ⟨xs, rd, dl⟩ := rd_lst dno
        refine .inl ⟨p, xs, rfl, .inl rd, fun p' hp' => ?_⟩
        obtain ⟨g4, s4, dn4⟩ := new_lst (xs := L2.cutV xs l u) (ds := Mn.cut ds l u) g3 s3 hp' dl.cut
        exact h3 m3 _ (Wd.le.refl _) g4 s4 _ dn4
      | _ => cases hr
    have other : (match rdO e3 G3 w with | some (.lst xs) => some (W.f (.lst (Mn.cut xs l u))) | _ => none) = some r → rSlW T v1 l u H3 Q := fun h => by
      cases ho : rdO e3 G3 w with
      | none => rw [ho] at h; cases h
      | some o =>
        rw [ho] at h
        exact lst o ho (by cases o <;> exact h)
    have tup : ∀ (p : Addr) (xs : List V) (ds : List D), v1 = .ref p → SqT T.K H3 p xs → DenL T m3 ds xs → (Mn.cut ds l u = ds → Den T m3 (.tup ds) v1) → r = .d (.tup (Mn.cut ds l u)) → rSlW T v1 l u H3 Q := fun p xs ds ev sq dl whole er => by
      subst ev er
      refine .inr (.inl ⟨p, xs, rfl, sq, fun hz => ?_, fun hz p' hp' => ?_⟩)
      · have e0 : Mn.cut ds l u = ds := by
          unfold Mn.cut
          rw [dl.length]
          exact cut_all hz.1 (by rw [hz.2, dl.length])
        refine h3 m3 H3 (Wd.le.refl _) g3 s3 _ ?_
        show Den T m3 (.tup (Mn.cut ds l u)) _
        rw [e0]
        exact whole e0
      · obtain ⟨m4, l4, g4, s4, dn4⟩ := new_tup (xs := L2.cutV xs l u) (ds := Mn.cut ds l u) g3 s3 hp' dl.cut
        exact h3 m4 _ l4 g4 s4 _ dn4
    cases w with
    | d x =>
      cases x with
      | str z =>
        have ev : v1 = .str z := dw3
        have h' : (if z.length ≤ sLn then some (W.d (.str (L2.cutS z l u))) else none) = some r := q
        split at h'
        · rename_i hz
          cases h'
          exact .inr (.inr ⟨z, ev, hz, h3 m3 H3 (Wd.le.refl _) g3 s3 _ rfl⟩)
        · cases h'
      | tup ds =>
        obtain ⟨p, xs, rfl, hf, dl⟩ := dw3
        have er : r = .d (.tup (Mn.cut ds l u)) := by cases q; rfl
        exact tup p xs ds rfl (.inl (.inl (g3.fz _ _ hf))) dl (fun _ => ⟨p, xs, rfl, hf, dl⟩) er
      | _ => exact other q
    | k ds =>
      obtain ⟨p, xs, ev, h1, dl⟩ := dw3
      have sq : SqT T.K H3 p xs := by
        rcases h1 with h1 | h1
        · rcases h1 with h1 | ⟨_, h1⟩ <;> cases h1
        · exact .inr h1
      have h' : (if HT.sIx ds.length 0 l = 0 ∧ HT.sIx ds.length ds.length u = ds.length then some (W.k ds) else some (.d (.tup (Mn.cut ds l u)))) = some r := q
      rw [dl.length] at h'
      split at h'
      · rename_i hz
        cases h'
        subst ev
        exact .inr (.inl ⟨p, xs, rfl, sq, fun _ => h3 m3 H3 (Wd.le.refl _) g3 s3 _ ⟨p, xs, rfl, h1, dl⟩, fun hz' => (hz' hz).elim⟩)
      · rename_i hz
        cases h'
        subst ev
        refine .inr (.inl ⟨p, xs, rfl, sq, fun hz' => (hz hz').elim, fun _ p' hp' => ?_⟩)
        obtain ⟨m4, l4, g4, s4, dn4⟩ := new_tup (xs := L2.cutV xs l u) (ds := Mn.cut ds l u) g3 s3 hp' dl.cut
        exact h3 m4 _ l4 g4 s4 _ dn4
    | _ => exact other q
def evRev (ra : Ev) : Ev := fun e G => (ra e G).bind fun w e G => (match rdO e G w with
    | some (.lst xs) => .ok (.f (.lst xs.reverse)) e G
    | _ => .no)
theorem x_rev (hK : X.K = T.K) {a : Expr} {k : Nat} {p1 p2 p3 pos : Pos} {ra : Ev} (ha : PE X a (tE T Wx ra)) : PE X (.Subscript a (.Slice none none (some (.UnaryOp .USub (.Constant (.int 1) k p1) p2)) p3) pos) (tE T Wx (evRev ra)) := by
  refine PE.imp (pe_revL ha) fun σ H Q ⟨Rs, m, G, e, g, s, h⟩ => ⟨Rs, m, G, e, g, s, OkR.thn h fun w m1 e1 G1 H1 l1 g1 s1 h1 v1 dw => ?_⟩
  cases q : rdO e1 G1 w with
  | none => rw [q] at h1; exact h1.elim
  | some o =>
    rw [q] at h1
    cases o with
    | lst ds =>
      obtain ⟨p, rfl, dno⟩ := rdO_at g1 s1 dw q
      obtain ⟨xs, rd, dl⟩ := rd_lst dno
      refine ⟨p, xs, rfl, .inl rd, fun p' hp' => ?_⟩
      obtain ⟨g4, s4, dn4⟩ := new_lst (xs := xs.reverse) (ds := ds.reverse) g1 s1 hp' dl.reverse
      exact h1 m1 _ (Wd.le.refl _) g4 s4 _ dn4
    | _ => exact h1.elim
/-! ### fields -/
/-- what is known of a class of the package -/
structure ClsL (T : Tb) (c : Nat) : Prop where
  cls : Cls T.K (T.ca c)
  noat : ∀ f ∈ T.fl c, NoAttr T.K (T.ca c) f
  nodup : (T.fl c).Nodup
  ha : PySem.W.findIn T.K (.ref (T.ca c)) "__class__" = some (some (.builtin "object.__class__"))
  hn : PySem.W.specialIn T.K (.builtin "object.__class__") "__get__" = some (some (.builtin "getset_descriptor.__get__"))
  htk : PySem.W.takesIn T.K (.builtin "object.__class__") = some true
  hm : PySem.W.mroIn T.K (T.ca c) (.type "object") = some true
theorem look_zip {α : Type} : ∀ {names : List Str} {xs : List α} {k : Nat} {f : Str} {v : α}, names.Nodup → names[k]? = some f → xs[k]? = some v → (names.zip xs).lookup f = some v
  | [], _, _, _, _, _, h, _ => by simp at h
  | n :: names, [], k, f, v, _, _, h => by simp at h
  | n :: names, x :: xs, 0, f, v, _, h1, h2 => by
    simp at h1 h2
    subst h1 h2
    rw [List.zip_cons_cons, List.lookup_cons]
    simp
  | n :: names, x :: xs, k + 1, f, v, hd, h1, h2 => by
    rw [List.getElem?_cons_succ] at h1 h2
    rw [List.zip_cons_cons, List.lookup_cons]
    have ne : (f == n) = false := by
      refine beq_eq_false_iff_ne.mpr fun z => ?_
      have := List.mem_of_getElem? h1
      rw [z] at this
      exact (List.nodup_cons.mp hd).1 this
    rw [ne]
    exact look_zip (List.nodup_cons.mp hd).2 h1 h2
theorem insW_at {w : W} {v : V} {c : Nat} {fs : List D} (g : RlG T Rs m G H) (s : RlS T Rs m e σ H) (dw : DenW T Rs m e σ H w v) (h : insW e G w = some (c, fs)) : ∃ p dx xs, v = .ref p ∧ H p = some (.ins (T.ca c) dx ((T.fl c).zip xs)) ∧ xs.length ≤ (T.fl c).length ∧ DenL T m fs xs := by
  unfold insW at h
  cases q : rdO e G w with
  | none => rw [q] at h; cases h
  | some o =>
    rw [q] at h
    cases o with
    | ins c' fs' =>
      cases h
      obtain ⟨p, rfl, dx, xs, h1, h2, h3⟩ := rdO_at g s dw q
      exact ⟨p, dx, xs, rfl, h1, h2, h3⟩
    | _ => cases h
def evFld (ra : Ev) (c k : Nat) : Ev := fun e G => (ra e G).bind fun w e G => (match insW e G w with
    | some (c', fs) => if c = c' then (match fs[k]? with | some x => .ok (.d x) e G | none => .no) else .no
    | none => .no)
theorem x_fld (hK : X.K = T.K) {a : Expr} {f : Str} {c k : Nat} {pos : Pos} {ra : Ev} (hc : ClsL T c) (hf : (T.fl c)[k]? = some f) (ha : PE X a (tE T Wx ra)) (hb : attributeBase a f X.env (eval a X.env) = eval a X.env) : PE X (.Attribute a f pos) (tE T Wx (evFld ra c k)) := by
  refine PE.imp (pe_fld ha hb) fun σ H Q ⟨Rs, m, G, e, g, s, h⟩ => ⟨Rs, m, G, e, g, s, OkR.thn h fun w m1 e1 G1 H1 l1 g1 s1 h1 v1 dw => ?_⟩
  cases q : insW e1 G1 w with
  | none => rw [q] at h1; exact h1.elim
  | some z =>
    obtain ⟨c', fs⟩ := z
    rw [q] at h1
    dsimp only at h1
    by_cases ec : c = c'
    · subst ec
      rw [if_pos rfl] at h1
      cases qk : fs[k]? with
      | none => rw [qk] at h1; exact h1.elim
      | some x =>
        rw [qk] at h1
        obtain ⟨p, dx, xs, rfl, h3, _, dl⟩ := insW_at g1 s1 dw q
        obtain ⟨y, hy, dy⟩ := dl.get qk
        rw [hK]
        exact ⟨p, _, dx, _, y, rfl, h3, hc.cls, hc.noat f (List.mem_of_getElem? hf), look_zip hc.nodup hf hy, h1 m1 H1 (Wd.le.refl _) g1 s1 y dy⟩
    · rw [if_neg ec] at h1
      exact h1.elim
end
end Mn
/-! Mn10: rules of built-in functions, displays. -/
namespace Mn
open PySem PySem.Spec PyProof.Rows L2
section
variable {T : Tb} {Rs Rs' : Hp} {Wx : WX} {m : Wd} {σ : L2.St} {G : List O} {e : List S} {H : Hp} {X : Cx}
/-! ### a new object of all -/
def Wd.glo (m : Wd) (p : Addr) : Wd := ⟨m.F, m.r ++ [p], m.an⟩
theorem Wd.glo_le {m : Wd} {p : Addr} : m.le (m.glo p) := ⟨⟨fun _ _ z => z, fun n q z => by
  show (m.r ++ [p])[n]? = some q
  rw [List.getElem?_append_left (List.getElem?_eq_some_iff.mp z).1]
  exact z⟩, rfl⟩
theorem glo_ok {o : O} {p : Addr} (g : RlG T Rs m G H) (s : RlS T Rs m e σ H) (hF : m.F p = none) (hR : Rs p = none) (hr : p ∉ m.r) (hO : ∀ (i : Nat) (q : O), e[i]? = some (.own q) → σ[i]? ≠ some (some (.ref p))) (dn : DenO T m H false o p) :
    RlG T Rs (m.glo p) (G ++ [o]) H ∧ RlS T Rs (m.glo p) e σ H ∧ Den T (m.glo p) (.g G.length) (.ref p) := by
  have le := Wd.glo_le (m := m) (p := p)
  refine ⟨⟨g.fz, fun q u h => ?_, ?_, ?_, fun n q u h1 h2 => ?_⟩, s.more le fun i q p' h1 h2 => ?_, p, rfl, ?_⟩
  · have ne : q ≠ p := fun y => by rw [y, hR] at h; cases h
    refine ⟨(g.rs q u h).1, (g.rs q u h).2.1, fun z => ?_, (g.rs q u h).2.2.2⟩
    rcases List.mem_append.mp z with z | z
    · exact (g.rs q u h).2.2.1 z
    · exact ne (by simpa using z)
  · show (m.r ++ [p]).length = _
    rw [List.length_append, List.length_append, g.gl] <;> rfl
  · show (m.r ++ [p]).Nodup
    rw [List.nodup_append]
    refine ⟨g.gi, by simp, fun a ha b hb => ?_⟩
    have : b = p := by simpa using hb
    rw [this]
    exact fun z => hr (z ▸ ha)
  · have h1' : (m.r ++ [p])[n]? = some q := h1
    by_cases hn : n < m.r.length
    · rw [List.getElem?_append_left hn] at h1'
      rw [List.getElem?_append_left (by rw [← g.gl]; exact hn)] at h2
      obtain ⟨a, b⟩ := g.g n q u h1' h2
      exact ⟨a, DenO.mono le (fun _ _ z => z) u q b⟩
    · have hl : n < (m.r ++ [p]).length := (List.getElem?_eq_some_iff.mp h1').1
      rw [List.length_append, List.length_singleton] at hl
      have en : n = m.r.length := by omega
      subst en
      rw [List.getElem?_append_right (Nat.le_refl _), Nat.sub_self] at h1'
      rw [g.gl, List.getElem?_append_right (Nat.le_refl _), Nat.sub_self] at h2
      cases h1'
      cases h2
      exact ⟨hF, DenO.mono le (fun _ _ z => z) _ _ dn⟩
  · obtain ⟨p'', a1, a2, a3, a4, _⟩ := s.o i q h1
    rw [h2] at a1
    cases a1
    refine ⟨a2, fun z => ?_⟩
    rcases List.mem_append.mp z with z | z
    · exact a4 z
    · have : p' = p := by simpa using z
      exact hO i q h1 (by rw [h2, this])
  · show (m.r ++ [p])[G.length]? = some p
    rw [← g.gl, List.getElem?_append_right (Nat.le_refl _), Nat.sub_self] <;> rfl
def evGlo (ra : Ev) : Ev := fun e G => (ra e G).bind fun w e G => (match w with | .f o => .ok (.d (.g G.length)) e (G ++ [o]) | _ => .no)
theorem x_glo {a : Expr} {ra : Ev} (ha : PE X a (tE T Wx ra)) : PE X a (tE T Wx (evGlo ra)) := by
  refine PE.imp ha fun σ H Q ⟨Rs, m, G, e, g, s, h⟩ => ⟨Rs, m, G, e, g, s, OkR.thn h fun w m1 e1 G1 H1 l1 g1 s1 h1 v1 dw => ?_⟩
  cases w with
  | f o =>
    obtain ⟨p, rfl, hF, hR, hr, hO, dn⟩ := dw
    obtain ⟨g2, s2, d2⟩ := glo_ok g1 s1 hF hR hr hO dn
    exact h1 _ H1 Wd.glo_le g2 s2 _ d2
  | _ => exact h1.elim
/-! ### built-in functions of one argument -/
def rB1 (T : Tb) (b : B1) : List V → Hp → VK → Prop := fun vs H Q => ∃ Rs m G e σ w v r, RlG T Rs m G H ∧ RlS T Rs m e σ H ∧ vs = [v] ∧ DenW T Rs m e σ H w v ∧ b1op e G b w = some r ∧
  ∀ v' m' H', m.le m' → RlG T Rs m' G H' → RlS T Rs m' e σ H' → DenW T Rs m' e σ H' r v' → Q v' H'
theorem CallR.imp {f : Value} {r r' : List V → Hp → VK → Prop} (h : CallR X f r) (i : ∀ xs H Q, r' xs H Q → r xs H Q) : CallR X f r' := fun pins s σ H xs us Q I rv q => h pins s σ H xs us Q I rv (i xs H Q q)
theorem DenL.bls : ∀ {ds : List D} {xs : List V} {bs : List Bool}, DenL T m ds xs → blsD ds = some bs → xs = bs.map V.bl
  | [], xs, bs, h, q => by
    have e : xs = [] := h
    cases q
    rw [e] <;> rfl
  | d :: ds, xs, bs, ⟨v, vs, e, a, l⟩, q => by
    cases d with
    | bl b =>
      have q' : (blsD ds).map (b :: ·) = some bs := q
      cases k : blsD ds with
      | none => rw [k] at q'; cases q'
      | some bs' =>
        rw [k] at q'
        cases q'
        have ev : v = .bl b := a
        rw [e, ev, DenL.bls l k] <;> rfl
    | _ => cases q
theorem DenL.vints : ∀ {ds : List D} {xs : List V} {bs : List Int}, DenL T m ds xs → intsD ds = some bs → xs = bs.map V.int
  | [], xs, bs, h, q => by
    have e : xs = [] := h
    cases q
    rw [e] <;> rfl
  | d :: ds, xs, bs, ⟨v, vs, e, a, l⟩, q => by
    cases d with
    | int b =>
      have q' : (intsD ds).map (b :: ·) = some bs := q
      cases k : intsD ds with
      | none => rw [k] at q'; cases q'
      | some bs' =>
        rw [k] at q'
        cases q'
        have ev : v = .int b := a
        rw [e, ev, DenL.vints l k] <;> rfl
    | _ => cases q
theorem DenK.length : ∀ {ds : List (D × D)} {xs : List (Key × V)}, DenK T m ds xs → ds.length = xs.length
  | [], _, h => by
    have e : _ = [] := h
    rw [e] <;> rfl
  | d :: ds, xs, ⟨v, vs, e, _, l⟩ => by rw [e, List.length_cons, List.length_cons, DenK.length l]
theorem DenT.length : ∀ {ds : List (D × D)} {xs : List (List Key × V)}, DenT T m ds xs → ds.length = xs.length
  | [], _, h => by
    have e : _ = [] := h
    rw [e] <;> rfl
  | d :: ds, xs, ⟨v, vs, e, _, l⟩ => by rw [e, List.length_cons, List.length_cons, DenT.length l]
theorem rdlW_at {w : W} {ds : List D} {v : V} (g : RlG T Rs m G H) (s : RlS T Rs m e σ H) (dw : DenW T Rs m e σ H w v) (h : rdl e G w = some ds) : ∃ p xs, v = .ref p ∧ DenL T m ds xs ∧ Rd H p (.lst xs) := by
  unfold rdl at h
  cases q : rdO e G w with
  | none => rw [q] at h; cases h
  | some o =>
    rw [q] at h
    cases o with
    | lst ys =>
      cases h
      obtain ⟨p, rfl, dn⟩ := rdO_at g s dw q
      obtain ⟨xs, r, l⟩ := rd_lst dn
      exact ⟨p, xs, rfl, l, r⟩
    | _ => cases h
theorem c_all (hc : X.calm = true) : CallR X (.builtin "all") (rB1 T .all) := by
  refine CallR.imp (cr_all hc) fun xs H Q ⟨Rs, m, G, e, σ, w, v, r, g, s, ev, dw, hb, q⟩ => ?_
  have hb' : (match (rdl e G w).bind blsD with | some bs => some (W.d (.bl (bs.all id))) | none => none) = some r := hb
  cases k : rdl e G w with
  | none => rw [k] at hb'; cases hb'
  | some ds =>
    rw [k] at hb'
    dsimp only [Option.bind] at hb'
    cases k2 : blsD ds with
    | none => rw [k2] at hb'; cases hb'
    | some bs =>
      rw [k2] at hb'
      cases hb'
      obtain ⟨p, ys, rfl, l, rd⟩ := rdlW_at g s dw k
      have ey := l.bls k2
      exact ⟨p, bs, ev, .inl (ey ▸ rd), q _ m H (Wd.le.refl _) g s rfl⟩
theorem c_any (hc : X.calm = true) : CallR X (.builtin "any") (rB1 T .any) := by
  refine CallR.imp (cr_any hc) fun xs H Q ⟨Rs, m, G, e, σ, w, v, r, g, s, ev, dw, hb, q⟩ => ?_
  have hb' : (match (rdl e G w).bind blsD with | some bs => some (W.d (.bl (bs.any id))) | none => none) = some r := hb
  cases k : rdl e G w with
  | none => rw [k] at hb'; cases hb'
  | some ds =>
    rw [k] at hb'
    dsimp only [Option.bind] at hb'
    cases k2 : blsD ds with
    | none => rw [k2] at hb'; cases hb'
    | some bs =>
      rw [k2] at hb'
      cases hb'
      obtain ⟨p, ys, rfl, l, rd⟩ := rdlW_at g s dw k
      have ey := l.bls k2
      exact ⟨p, bs, ev, .inl (ey ▸ rd), q _ m H (Wd.le.refl _) g s rfl⟩
theorem c_sum (hc : X.calm = true) : CallR X (.builtin "sum") (rB1 T .sum) := by
  refine CallR.imp (cr_sum hc) fun xs H Q ⟨Rs, m, G, e, σ, w, v, r, g, s, ev, dw, hb, q⟩ => ?_
  have hb' : (match (rdl e G w).bind intsD with | some bs => some (W.d (.int bs.sum)) | none => none) = some r := hb
  cases k : rdl e G w with
  | none => rw [k] at hb'; cases hb'
  | some ds =>
    rw [k] at hb'
    dsimp only [Option.bind] at hb'
    cases k2 : intsD ds with
    | none => rw [k2] at hb'; cases hb'
    | some bs =>
      rw [k2] at hb'
      cases hb'
      obtain ⟨p, ys, rfl, l, rd⟩ := rdlW_at g s dw k
      have ey := l.vints k2
      exact ⟨p, bs, ev, .inl (ey ▸ rd), q _ m H (Wd.le.refl _) g s rfl⟩
theorem c_abs : CallR X (.builtin "abs") (rB1 T .abs) := by
  refine CallR.imp call_abs fun xs H Q ⟨Rs, m, G, e, σ, w, v, r, g, s, ev, dw, hb, q⟩ => ?_
  cases w with
  | d x =>
    cases x with
    | int i =>
      cases hb
      have ev' : v = .int i := dw
      exact ⟨i, by rw [ev, ev'], q _ m H (Wd.le.refl _) g s rfl⟩
    | _ => cases hb
  | _ => cases hb
theorem c_int : CallR X (.type "int") (rB1 T .int) := by
  refine CallR.imp call_int1 fun xs H Q ⟨Rs, m, G, e, σ, w, v, r, g, s, ev, dw, hb, q⟩ => ?_
  cases w with
  | d x =>
    cases x with
    | int i =>
      cases hb
      have ev' : v = .int i := dw
      exact .inl ⟨i, by rw [ev, ev'], q _ m H (Wd.le.refl _) g s rfl⟩
    | bl i =>
      cases hb
      have ev' : v = .bl i := dw
      exact .inr ⟨i, by rw [ev, ev'], q _ m H (Wd.le.refl _) g s rfl⟩
    | _ => cases hb
  | _ => cases hb
theorem c_tup (hK : X.K = T.K) : CallR X (.type "tuple") (rB1 T .tup) := by
  refine CallR.imp call_tuple_of fun xs H Q ⟨Rs, m, G, e, σ, w, v, r, g, s, ev, dw, hb, q⟩ => ?_
  have hb' : (match (generalizing := false) w with
    | .k xs => some (W.k xs)
    | w => (match rdL e G w with | some xs => some (W.d (.tup xs)) | none => none)) = some r := hb
  have gen : (match rdL e G w with | some xs => some (W.d (.tup xs)) | none => none) = some r → (∀ ds, w ≠ .k ds) → ∃ p ys, xs = [.ref p] ∧ ((SqL X.K H p ys ∧ ∀ l, H l = none → Q (.ref l) (upd H l (.tup ys))) ∨ (SqT X.K H p ys ∧ Q (.ref p) H)) := fun h nk => by
    cases k : rdL e G w with
    | none => rw [k] at h; cases h
    | some ds =>
      rw [k] at h
      cases h
      -- a list, or a tuple
      have tupc : (∃ ds', w = .d (.tup ds')) ∨ ¬ ∃ ds', w = .d (.tup ds') := Classical.em _
      rcases tupc with ⟨ds', rfl⟩ | nt
      · cases k
        obtain ⟨p, ys, rfl, hf, l⟩ := dw
        exact ⟨p, ys, ev, .inr ⟨.inl (.inl (g.fz _ _ hf)), q _ m H (Wd.le.refl _) g s ⟨p, ys, rfl, hf, l⟩⟩⟩
      · obtain ⟨p, ys, rfl, l, sq⟩ := rdL_lst g s dw k (fun ys z => nt ⟨ys, z⟩) nk
        refine ⟨p, ys, ev, .inl ⟨by rw [hK]; exact sq, fun l' hl' => ?_⟩⟩
        obtain ⟨m4, l4, g4, s4, dn4⟩ := new_tup (xs := ys) (ds := ds) g s hl' l
        exact q _ m4 _ l4 g4 s4 dn4
  cases w with
  | k ds =>
    cases hb'
    obtain ⟨p, ys, rfl, h1, l⟩ := dw
    have sq : SqT T.K H p ys := by
      rcases h1 with h1 | h1
      · rcases h1 with h1 | ⟨_, h1⟩ <;> cases h1
      · exact .inr h1
    refine ⟨p, ys, ev, .inr ⟨by rw [hK]; exact sq, q _ m H (Wd.le.refl _) g s ⟨p, ys, rfl, h1, l⟩⟩⟩
  | _ => exact gen hb' (fun _ z => by cases z)
theorem keys_of : ∀ {kvs : List (D × D)} {ys : List (Key × V)}, DenK T m kvs ys → DenL T m (kvs.map (·.1)) (ys.map fun kv => kV kv.1)
  | [], ys, h => by
    have e : ys = [] := h
    subst e
    exact rfl
  | (a, d) :: kvs, ys, ⟨v, vs, e, ⟨h1, _⟩, l⟩ => by
    subst e
    exact ⟨kV v.1, _, rfl, h1, keys_of l⟩
/-- the world with all tuples of the heap -/
def Wd.tups (m : Wd) (H : Hp) : Wd := ⟨fun q => match H q with | some (.tup xs) => some (.tup xs) | _ => m.F q, m.r, m.an⟩
theorem Wd.tups_no {p : Addr} (h : ∀ xs, H p ≠ some (.tup xs)) : (m.tups H).F p = m.F p := by
  show (match H p with | some (.tup xs) => some (HO.tup xs) | _ => m.F p) = _
  split
  · rename_i xs q
    exact absurd q (h xs)
  · rfl
theorem Wd.tups_at {p : Addr} {xs : List V} (h : H p = some (.tup xs)) : (m.tups H).F p = some (.tup xs) := by
  show (match H p with | some (.tup xs) => some (HO.tup xs) | _ => m.F p) = _
  rw [h]
theorem DenO.noTup {o : O} {p : Addr} {fz : Bool} (h : DenO T m H fz o p) : ∀ xs, H p ≠ some (.tup xs) := fun xs z => by
  cases o with
  | lst ds =>
    obtain ⟨ys, q, _⟩ := h
    rcases q with q | ⟨_, ob, q⟩ <;> (rw [q] at z; cases z)
  | dK kvs => obtain ⟨ys, q, _⟩ := h; rw [q] at z; cases z
  | dT kvs => obtain ⟨ys, q, _⟩ := h; rw [q] at z; cases z
  | ins c ds => obtain ⟨dx, ys, q, _⟩ := h; rw [q] at z; cases z
theorem tups_ok (g : RlG T Rs m G H) (s : RlS T Rs m e σ H) : m.le (m.tups H) ∧ RlG T Rs (m.tups H) G H ∧ RlS T Rs (m.tups H) e σ H := by
  have le : m.le (m.tups H) := ⟨⟨fun p o h => by
    have hp := g.fz p o h
    by_cases z : ∃ xs, o = HO.tup xs
    · obtain ⟨xs, rfl⟩ := z
      exact Wd.tups_at hp
    · rw [Wd.tups_no (fun xs q => z ⟨xs, by rw [hp] at q; cases q; rfl⟩)]
      exact h, fun _ _ z => z⟩, rfl⟩
  refine ⟨le, ⟨fun p o h => ?_, fun p o h => ?_, g.gl, g.gi, fun n p o h1 h2 => ?_⟩, s.more le fun i o p h1 h2 => ?_⟩
  · by_cases z : ∃ xs, H p = some (HO.tup xs)
    · obtain ⟨xs, q⟩ := z
      rw [Wd.tups_at q] at h
      cases h
      exact q
    · rw [Wd.tups_no (fun xs q => z ⟨xs, q⟩)] at h
      exact g.fz p o h
  · obtain ⟨a, b, c, d⟩ := g.rs p o h
    exact ⟨a, by rw [Wd.tups_no (fun xs q => d xs (by rw [a] at q; cases q; rfl))]; exact b, c, d⟩
  · obtain ⟨a, b⟩ := g.g n p o h1 h2
    exact ⟨by rw [Wd.tups_no b.noTup]; exact a, DenO.mono le (fun _ _ z => z) o p b⟩
  · obtain ⟨p', a1, a2, a3, a4, a5⟩ := s.o i o h1
    rw [a1] at h2
    cases h2
    exact ⟨by rw [Wd.tups_no a5.noTup]; exact a2, a4⟩
theorem den_tup_key {ks : List Key} : DenL T m (ks.map keyD) (ks.map kV) := by
  induction ks with
  | nil => exact rfl
  | cons k ks ih => exact ⟨_, _, rfl, by cases k <;> rfl, ih⟩
theorem keysT_of (g : RlG T Rs m G H) : ∀ {kvs : List (D × D)} {ys : List (List Key × V)} {bs : List Addr}, DenT T m kvs ys → IsKeys H ys bs → DenL T (m.tups H) (kvs.map (·.1)) (bs.map V.ref)
  | [], ys, bs, h, k => by
    have e : ys = [] := h
    subst e
    cases k
    exact rfl
  | (.tup ds, d) :: r, ys, bs, ⟨q, qs, e, ab, l⟩, k => by
    subst e
    cases k with
    | cons h k =>
      have e2 : ds = q.1.map keyD := denL_keys ab.1
      refine ⟨_, _, rfl, ⟨_, _, rfl, Wd.tups_at h, ?_⟩, keysT_of g l k⟩
      rw [e2]
      exact den_tup_key
  | (.non, d) :: r, ys, bs, ⟨q, qs, e, a, l⟩, k => a.elim
  | (.bl _, d) :: r, ys, bs, ⟨q, qs, e, a, l⟩, k => a.elim
  | (.int _, d) :: r, ys, bs, ⟨q, qs, e, a, l⟩, k => a.elim
  | (.str _, d) :: r, ys, bs, ⟨q, qs, e, a, l⟩, k => a.elim
  | (.obj _, d) :: r, ys, bs, ⟨q, qs, e, a, l⟩, k => a.elim
  | (.g _, d) :: r, ys, bs, ⟨q, qs, e, a, l⟩, k => a.elim
  | (.scr _, d) :: r, ys, bs, ⟨q, qs, e, a, l⟩, k => a.elim
theorem c_list (hK : X.K = T.K) (hc : X.calm = true) : CallR X (.type "list") (rB1 T .list) := by
  refine CallR.imp (call_list_of.or ((call_list_dK hc).or (call_list_dT hc))) fun xs H Q ⟨Rs, m, G, e, σ, w, v, r, g, s, ev, dw, hb, q⟩ => ?_
  have hb' : (match rdL e G w with
    | some xs => some (W.f (.lst xs))
    | none => (match rdO e G w with
      | some (.dK kvs) => some (W.f (.lst (kvs.map (·.1))))
      | some (.dT kvs) => some (W.f (.lst (kvs.map (·.1))))
      | _ => none)) = some r := hb
  cases k : rdL e G w with
  | some ds =>
    rw [k] at hb'
    cases hb'
    obtain ⟨p, ys, rfl, l, rd⟩ := rdL_at g s dw k
    refine .inl ⟨p, ys, ev, by rw [hK]; exact sq_of rd, fun l' hl' => ?_⟩
    obtain ⟨g4, s4, dn4⟩ := new_lst (xs := ys) (ds := ds) g s hl' l
    exact q _ m _ (Wd.le.refl _) g4 s4 dn4
  | none =>
    rw [k] at hb'
    dsimp only at hb'
    cases k2 : rdO e G w with
    | none => rw [k2] at hb'; cases hb'
    | some o =>
      rw [k2] at hb'
      cases o with
      | dK kvs =>
        cases hb'
        obtain ⟨p, rfl, ys, h1, l⟩ := rdO_at g s dw k2
        refine .inr (.inl ⟨p, ys, ev, h1, fun l' hl' => ?_⟩)
        obtain ⟨g4, s4, dn4⟩ := new_lst (xs := ys.map fun kv => kV kv.1) (ds := kvs.map (·.1)) g s hl' (keys_of l)
        exact q _ m _ (Wd.le.refl _) g4 s4 dn4
      | dT kvs =>
        cases hb'
        obtain ⟨p, rfl, ys, h1, l⟩ := rdO_at g s dw k2
        refine .inr (.inr ⟨p, ys, ev, .inl h1, fun l' bs hl' hk => ?_⟩)
        obtain ⟨le, g3, s3⟩ := tups_ok g s
        obtain ⟨g4, s4, dn4⟩ := new_lst (xs := bs.map V.ref) (ds := kvs.map (·.1)) g3 s3 hl' (keysT_of g l hk)
        exact q _ _ _ le g4 s4 dn4
      | _ => cases hb'
theorem c_len (hK : X.K = T.K) : CallR X (.builtin "len") (rB1 T .len) := by
  refine CallR.imp (call_len.or (call_lenD.or call_len_dT)) fun xs H Q ⟨Rs, m, G, e, σ, w, v, r, g, s, ev, dw, hb, q⟩ => ?_
  have gen : (match rdL e G w with
      | some xs => some (W.d (.int xs.length))
      | none => (match rdO e G w with
        | some (.dK kvs) => some (.d (.int kvs.length))
        | some (.dT kvs) => some (.d (.int kvs.length))
        | _ => none)) = some r → (∃ x n, xs = [x] ∧ LenV X.K x H n ∧ Q (.int n) H) ∨ (∃ a kvs, xs = [V.ref a] ∧ H a = some (.dK kvs) ∧ Q (.int kvs.length) H) ∨ rLenT xs H Q := fun h => by
    cases k : rdL e G w with
    | some ds =>
      rw [k] at h
      cases h
      obtain ⟨p, ys, rfl, l, rd⟩ := rdL_at g s dw k
      refine .inl ⟨.ref p, ds.length, ev, ?_, q _ m H (Wd.le.refl _) g s rfl⟩
      rw [hK]
      rcases sq_of rd with rd | rd
      · exact .inl ⟨ys, rd, l.length⟩
      · exact .inr ⟨ys, rd, l.length⟩
    | none =>
      rw [k] at h
      dsimp only at h
      cases k2 : rdO e G w with
      | none => rw [k2] at h; cases h
      | some o =>
        rw [k2] at h
        cases o with
        | dK kvs =>
          cases h
          obtain ⟨p, rfl, ys, h1, l⟩ := rdO_at g s dw k2
          refine .inr (.inl ⟨p, ys, ev, h1, ?_⟩)
          rw [← l.length]
          exact q _ m H (Wd.le.refl _) g s rfl
        | dT kvs =>
          cases h
          obtain ⟨p, rfl, ys, h1, l⟩ := rdO_at g s dw k2
          refine .inr (.inr ⟨p, ys, ev, h1, ?_⟩)
          rw [← l.length]
          exact q _ m H (Wd.le.refl _) g s rfl
        | _ => cases h
  cases w with
  | d x =>
    cases x with
    | str z =>
      have h' : (if z.length ≤ sLn then some (W.d (.int z.length)) else none) = some r := hb
      split at h'
      · rename_i hz
        cases h'
        have ev' : v = .str z := dw
        subst ev'
        exact .inl ⟨.str z, z.length, ev, ⟨hz, rfl⟩, q _ m H (Wd.le.refl _) g s rfl⟩
      · cases h'
    | _ => exact gen hb
  | _ => exact gen hb
end
/-! ### as expressions -/
section
variable {T : Tb} {Wx : WX} {X : Cx}
def evB1 (b : B1) (ra : Ev) : Ev := fun e G => (ra e G).bind fun w e G => toR (b1op e G b w) e G
theorem tB1 {b : B1} {ra : Ev} {σ : L2.St} {H : Hp} {Q : VK} (h : tE T Wx (evB1 b ra) σ H Q) : tCB (rB1 T b) (tCons (tE T Wx ra) tNil) σ H Q := by
  obtain ⟨Rs, m, G, e, g, s, h⟩ := h
  refine ⟨Rs, m, G, e, g, s, OkR.thn h fun w m1 e1 G1 H1 l1 g1 s1 h1 v1 dw => ?_⟩
  cases q : b1op e1 G1 b w with
  | none => rw [q] at h1; exact h1.elim
  | some r =>
    rw [q] at h1
    exact ⟨Rs, m1, G1, e1, σ, w, v1, r, g1, s1, rfl, dw, q, fun v' m' H' l' g' s' d' => h1 m' H' l' g' s' v' d'⟩
theorem x_b1 {b : B1} {id : String} {x : Str} {a : Expr} {p pos : Pos} {ra : Ev} (hc : CallR X (.builtin id) (rB1 T b)) (hg : Gl X x) (hm : X.mg x = none) (hv : bootBuiltins x = some (.builtin id)) (ha : PE X a (tE T Wx ra)) (hn : x ≠ "__name__") (hdb : (x == ("__debug__" : Str)) = false)
    (hs : starEach [a] X.env = (false, eval a X.env) :: starEach [] X.env) : PE X (.Call (.Name x p) [a] [] pos) (tE T Wx (evB1 b ra)) :=
  PE.imp (pe_callB hc hg hm hv (pa_cons ha pa_nil hs) hn hdb hs) fun _ _ _ => tB1
theorem x_b1t {b : B1} {id : String} {x : Str} {a : Expr} {p pos : Pos} {ra : Ev} (hc : CallR X (.type id) (rB1 T b)) (hg : Gl X x) (hm : X.mg x = none) (hv : bootBuiltins x = some (.type id)) (ha : PE X a (tE T Wx ra)) (hn : x ≠ "__name__") (hdb : (x == ("__debug__" : Str)) = false)
    (hs : starEach [a] X.env = (false, eval a X.env) :: starEach [] X.env) : PE X (.Call (.Name x p) [a] [] pos) (tE T Wx (evB1 b ra)) :=
  PE.imp (pe_callTy hc hg hm hv (pa_cons ha pa_nil hs) hn hdb hs) fun _ _ _ => tB1
theorem rgV_den {T : Tb} {m : Wd} (a b : Int) : DenL T m ((List.range (b - a).toNat).map fun (k : Nat) => D.int (a + k)) (rgV a b) := by
  unfold rgV
  generalize List.range (b - a).toNat = l
  induction l with
  | nil => exact rfl
  | cons x r ih => exact ⟨_, _, rfl, rfl, ih⟩
theorem x_rg1 (hc : X.calm = true) {a : Expr} {p p2 pos pos2 : Pos} {ra : Ev} (hg : Gl X "list") (hm : X.mg "list" = none) (hg2 : Gl X "range") (hm2 : X.mg "range" = none) (ha : PE X a (tE T Wx ra))
    (hs : starEach [a] X.env = (false, eval a X.env) :: starEach [] X.env) : PE X (.Call (.Name "list" p) [.Call (.Name "range" p2) [a] [] pos2] [] pos) (tE T Wx (evB1 .rng ra)) := by
  refine PE.imp (pe_listRg hc hg hm (prg_1 hg2 hm2 ha hs)) fun σ H Q ⟨Rs, m, G, e, g, s, h⟩ => ⟨Rs, m, G, e, g, s, OkR.thn h fun w m1 e1 G1 H1 l1 g1 s1 h1 v1 dw => ?_⟩
  cases w with
  | d x =>
    cases x with
    | int n =>
      have h2 : OkR T Rs Wx m1 σ (toR (if decide (-(2 ^ 62) ≤ n) && decide (n ≤ sLn) then some (.f (.lst ((List.range n.toNat).map fun (i : Nat) => D.int i))) else none) e1 G1) fun w m' e' G' H' => ∀ v, DenW T Rs m' e' σ H' w v → Q v H' := h1
      cases hb : (decide (-(2 ^ 62) ≤ n) && decide (n ≤ sLn)) with
      | false => rw [hb] at h2; exact h2.elim
      | true =>
        rw [hb] at h2
        have hn1 := of_decide_eq_true (Bool.and_eq_true_iff.mp hb).1
        have hn2 := of_decide_eq_true (Bool.and_eq_true_iff.mp hb).2
        have hs2 : (sLn : Nat) = 16777216 := sizeLine_eq
        rw [hs2] at hn2
        refine ⟨n, dw, ⟨by omega, by omega, by omega, by omega, by omega⟩, fun q hq => ?_⟩
        have dl := rgV_den (T := T) (m := m1) 0 n
        rw [Int.sub_zero] at dl
        have ee : ((List.range n.toNat).map fun (k : Nat) => D.int (0 + k)) = (List.range n.toNat).map fun (i : Nat) => D.int i := List.map_congr_left fun k _ => by rw [Int.zero_add]
        rw [ee] at dl
        obtain ⟨g4, s4, dn4⟩ := new_lst (xs := rgV 0 n) g1 s1 hq dl
        exact h2 m1 _ (Wd.le.refl _) g4 s4 _ dn4
    | _ => exact h1.elim
  | _ => exact h1.elim
/-! ### two arguments -/
def evB2 (b : B2) (ra rb : Ev) : Ev := fun e G => (ra e G).toD.bind fun x e G => (rb e G).toD.bind fun y e G => toR (b2op b x y) e G
theorem x_rg2 (hc : X.calm = true) {a b : Expr} {p p2 pos pos2 : Pos} {ra rb : Ev} (hg : Gl X "list") (hm : X.mg "list" = none) (hg2 : Gl X "range") (hm2 : X.mg "range" = none) (ha : PE X a (tE T Wx ra)) (hb : PE X b (tE T Wx rb))
    (hs : starEach [a, b] X.env = (false, eval a X.env) :: starEach [b] X.env) (hs2 : starEach [b] X.env = (false, eval b X.env) :: starEach [] X.env) : PE X (.Call (.Name "list" p) [.Call (.Name "range" p2) [a, b] [] pos2] [] pos) (tE T Wx (evB2 .rng ra rb)) := by
  refine PE.imp (pe_listRg hc hg hm (prg_2 hg2 hm2 (PE.imp ha fun _ _ _ => tE_of_tD) (PE.imp hb fun _ _ _ => tE_of_tD) hs hs2 (by rw [hs2] <;> rfl))) fun σ H Q ⟨Rs, m, G, e, g, s, h⟩ => ⟨Rs, m, G, e, g, s, OkR.thn h fun x m1 e1 G1 H1 l1 g1 s1 h1 v1 dn1 => ⟨Rs, m1, G1, e1, g1, s1, OkR.thn h1 fun y m2 e2 G2 H2 l2 g2 s2 h2 v2 dn2 => ?_⟩⟩
  cases x with
  | int i =>
    cases y with
    | int j =>
      have h3 : OkR T Rs Wx m2 σ (toR (if decide (-(2 ^ 62) ≤ i) && decide (i < 2 ^ 62) && decide (-(2 ^ 62) ≤ j) && decide (j < 2 ^ 62) && decide (j - i ≤ sLn) then some (.f (.lst ((List.range (j - i).toNat).map fun (k : Nat) => .int (i + k)))) else none) e2 G2) fun w m' e' G' H' => ∀ v, DenW T Rs m' e' σ H' w v → Q v H' := h2
      cases hb : (decide (-(2 ^ 62) ≤ i) && decide (i < 2 ^ 62) && decide (-(2 ^ 62) ≤ j) && decide (j < 2 ^ 62) && decide (j - i ≤ sLn)) with
      | false => rw [hb] at h3; exact h3.elim
      | true =>
        rw [hb] at h3
        simp only [Bool.and_eq_true, decide_eq_true_eq] at hb
        have hs2 : (sLn : Nat) = 16777216 := sizeLine_eq
        rw [hs2] at hb
        refine ⟨i, j, dn1, dn2, ⟨by omega, by omega, by omega, by omega, by omega⟩, fun q hq => ?_⟩
        obtain ⟨g4, s4, dn4⟩ := new_lst (xs := rgV i j) g2 s2 hq (rgV_den i j)
        exact h3 m2 _ (Wd.le.refl _) g4 s4 _ dn4
    | _ => exact h2.elim
  | _ =>
    have h2' : OkR T Rs Wx m2 σ (toR none e2 G2) fun w m' e' G' H' => ∀ v, DenW T Rs m' e' σ H' w v → Q v H' := h2
    exact h2'.elim
def rB2 (T : Tb) (b : B2) : List V → Hp → VK → Prop := fun vs H Q => ∃ (m : Wd) (x y z : D) (v u : V), vs = [v, u] ∧ Den T m x v ∧ Den T m y u ∧ b2op b x y = some (.d z) ∧ ∀ v', Den T m z v' → Q v' H
theorem c_max2 (hc : X.calm = true) : CallR X (.builtin "max") (rB2 T .max) := by
  refine CallR.imp (call_max2 hc) fun xs H Q ⟨m, x, y, z, v, u, ev, d1, d2, hb, q⟩ => ?_
  cases x with
  | int i =>
    cases y with
    | int j =>
      cases hb
      have e1 : v = .int i := d1
      have e2 : u = .int j := d2
      exact ⟨i, j, by rw [ev, e1, e2], q _ rfl⟩
    | _ => cases hb
  | _ => cases hb
theorem c_min2 (hc : X.calm = true) : CallR X (.builtin "min") (rB2 T .min) := by
  refine CallR.imp (call_min2 hc) fun xs H Q ⟨m, x, y, z, v, u, ev, d1, d2, hb, q⟩ => ?_
  cases x with
  | int i =>
    cases y with
    | int j =>
      cases hb
      have e1 : v = .int i := d1
      have e2 : u = .int j := d2
      exact ⟨i, j, by rw [ev, e1, e2], q _ rfl⟩
    | _ => cases hb
  | _ => cases hb
theorem x_b2 {b : B2} {id : String} {x : Str} {a a' : Expr} {p pos : Pos} {ra rb : Ev} (hb2 : b ≠ .rng) (hc : CallR X (.builtin id) (rB2 T b)) (hg : Gl X x) (hm : X.mg x = none) (hv : bootBuiltins x = some (.builtin id)) (ha : PE X a (tE T Wx ra)) (hb : PE X a' (tE T Wx rb)) (hn : x ≠ "__name__") (hdb : (x == ("__debug__" : Str)) = false)
    (hs : starEach [a, a'] X.env = (false, eval a X.env) :: starEach [a'] X.env) (hs2 : starEach [a'] X.env = (false, eval a' X.env) :: starEach [] X.env) : PE X (.Call (.Name x p) [a, a'] [] pos) (tE T Wx (evB2 b ra rb)) := by
  refine PE.imp (pe_callB hc hg hm hv (pa_cons (PE.imp ha fun _ _ _ => tE_of_tD) (pa_cons (PE.imp hb fun _ _ _ => tE_of_tD) pa_nil hs2) hs) hn hdb hs (by rw [hs2] <;> rfl)) fun σ H Q ⟨Rs, m, G, e, g, s, h⟩ =>
    ⟨Rs, m, G, e, g, s, OkR.thn h fun d1 m1 e1 G1 H1 l1 g1 s1 h1 v1 dn1 => ⟨Rs, m1, G1, e1, g1, s1, OkR.thn h1 fun d2 m2 e2 G2 H2 l2 g2 s2 h2 v2 dn2 => ?_⟩⟩
  cases q : b2op b d1 d2 with
  | none => rw [q] at h2; exact h2.elim
  | some w =>
    rw [q] at h2
    have hw : ∃ z, w = .d z := by
      cases b with
      | rng => exact absurd rfl hb2
      | _ => cases d1 <;> cases d2 <;> first | (cases q; exact ⟨_, rfl⟩) | cases q
    obtain ⟨z, rfl⟩ := hw
    exact ⟨m2, d1, d2, z, v1, v2, rfl, Den.mono l2 d1 v1 dn1, dn2, q, fun v' d' => h2 m2 H2 (Wd.le.refl _) g2 s2 v' d'⟩
end
end Mn
/-! Mn11: isinstance, displays of dicts. -/
namespace Mn
open PySem PySem.Spec PyProof.Rows L2
def tyNames : List String := ["NoneType", "bool", "int", "str", "tuple", "list", "dict"]
/-- a class of the package and the built-in types -/
structure IsL (T : Tb) (c : Nat) : Prop where
  ty : ∀ n ∈ tyNames, PySem.W.kitOne T.K (.type n) (.ref (T.ca c)) = some false
  own : ∀ n ∈ tyNames, PySem.W.kitOne T.K (.ref (T.ca c)) (.type n) = some false
def TN.val (T : Tb) : TN → Value
  | .non => .type "NoneType"
  | .bl => .type "bool"
  | .int => .type "int"
  | .str => .type "str"
  | .tup => .type "tuple"
  | .lst => .type "list"
  | .dct => .type "dict"
  | .own c => .ref (T.ca c)
section
variable {T : Tb} {Rs Rs' : Hp} {Wx : WX} {m : Wd} {σ : L2.St} {G : List O} {e : List S} {H : Hp} {X : Cx}
theorem tyO_at {o : O} {p : Addr} (hC : ∀ c, ClsL T c) (h : DenO T m H true o p) : TyX T.K H (.ref p) ((tnO o).val T) := by
  cases o with
  | lst ds =>
    obtain ⟨xs, q, _⟩ := h
    rcases q with q | ⟨_, ob, q⟩
    · exact .base (.lst q)
    · exact .base (.frz q)
  | dK kvs =>
    obtain ⟨xs, q, _⟩ := h
    exact .base (.dK q)
  | dT kvs =>
    obtain ⟨xs, q, _⟩ := h
    exact .base (.dT q)
  | ins c ds =>
    obtain ⟨dx, xs, q, _⟩ := h
    exact .base (.ins q (hC c).cls (hC c).ha (hC c).hn (hC c).htk (hC c).hm)
theorem tyD_at {d : D} {v : V} {k : TN} (hC : ∀ c, ClsL T c) (g : RlG T Rs m G H) (s : RlS T Rs m e σ H) (dn : Den T m d v) (h : tnD G d = some k) : TyX T.K H v (k.val T) := by
  have obj : ∀ o, rdO e G (.d d) = some o → TyX T.K H v ((tnO o).val T) := fun o ho => by
    obtain ⟨p, rfl, dno⟩ := rdO_at g s (show DenW T Rs m e σ H (.d d) v from dn) ho
    exact tyO_at hC dno
  cases d with
  | non => cases h; cases (show v = .non from dn); exact .base .non
  | bl b => cases h; cases (show v = .bl b from dn); exact .base (.bl b)
  | int b => cases h; cases (show v = .int b from dn); exact .base (.int b)
  | str b => cases h; cases (show v = .str b from dn); exact .base (.str b)
  | tup ds =>
    cases h
    obtain ⟨p, xs, rfl, hf, _⟩ := dn
    exact .base (.tup (g.fz _ _ hf))
  | obj o =>
    cases h
    exact obj o rfl
  | scr ns => cases h
  | g n =>
    have h' : G[n]?.map tnO = some k := h
    cases q : G[n]? with
    | none => rw [q] at h'; cases h'
    | some o =>
      rw [q] at h'
      cases h'
      exact obj o q
def Ty.one : Ty → Option String
  | .int => some "int"
  | .bool => some "bool"
  | .str => some "str"
  | .list => some "list"
  | .tuple => some "tuple"
  | .dict => some "dict"
  | _ => none
theorem kit_one (hI : ∀ c, IsL T c) {t : Ty} {n : String} {k : TN} {b : Bool} (ht : t.one = some n) (h : tyIs t k = some b) : PySem.W.kitOne T.K (k.val T) (.type n) = some b := by
  cases k with
  | own c =>
    have hn : n ∈ tyNames := by cases t <;> first | (cases ht; decide) | cases ht
    have hb : b = false := by cases t <;> first | (cases ht; cases h; rfl) | cases ht
    subst hb
    exact (hI c).own n hn
  | _ => cases t <;> first | cases ht; done | (cases ht; cases h; exact kit_ty (by decide +kernel))
theorem kit_cls (hI : ∀ c, IsL T c) {c : Nat} {k : TN} {b : Bool} (h : tyIs (.cls c) k = some b) : PySem.W.kitOne T.K (k.val T) (.ref (T.ca c)) = some b := by
  cases k with
  | own c' =>
    have h' : (if c = c' then some true else none) = some b := h
    split at h'
    · rename_i ec
      subst ec
      cases h'
      show PySem.W.kitOne T.K (.ref (T.ca c)) (.ref (T.ca c)) = some true
      unfold PySem.W.kitOne
      rw [if_pos (by simp)]
    · cases h'
  | _ => cases h; exact (hI c).ty _ (by decide)
def evIsi (t : Ty) (ra : Ev) : Ev := fun e G => (ra e G).toD.bind fun x e G => (match isTy G t x with | some k => .ok (.d (.bl k)) e G | none => .no)
theorem isTy_some {t : Ty} {d : D} {b : Bool} (h : isTy G t d = some b) : ∃ k, tnD G d = some k ∧ tyIs t k = some b := by
  unfold isTy at h
  cases q : tnD G d with
  | none => rw [q] at h; cases h
  | some k => rw [q] at h; exact ⟨k, rfl, h⟩
theorem tIsi {t : Ty} {ra : Ev} {σ : L2.St} {H : Hp} {Q : VK} {tc : TE} {r : List V → Hp → VK → Prop} (h : tE T Wx (evIsi t ra) σ H Q) (hr : ∀ Rs m G e H v d k b, RlG T Rs m G H → RlS T Rs m e σ H → Den T m d v → tnD G d = some k → tyIs t k = some b → (∀ m' H', m.le m' → RlG T Rs m' G H' → RlS T Rs m' e σ H' → Q (.bl b) H') → tc σ H fun c H' => r [v, c] H' Q) :
    tCB r (tCons (tD T Wx fun e G => (ra e G).toD) (tCons tc tNil)) σ H Q := by
  obtain ⟨Rs, m, G, e, g, s, h⟩ := h
  refine ⟨Rs, m, G, e, g, s, OkR.thn h fun d m1 e1 G1 H1 l1 g1 s1 h1 v1 dn => ?_⟩
  cases q : isTy G1 t d with
  | none => rw [q] at h1; exact h1.elim
  | some b =>
    rw [q] at h1
    obtain ⟨k, h3, h4⟩ := isTy_some q
    exact hr Rs m1 G1 e1 H1 v1 d k b g1 s1 dn h3 h4 fun m' H' l' g' s' => h1 m' H' l' g' s' _ rfl
theorem x_isi (hK : X.K = T.K) (hC : ∀ c, ClsL T c) (hI : ∀ c, IsL T c) {t : Ty} {n : String} {y : Str} {a : Expr} {p p2 pos : Pos} {ra : Ev} (ht : t.one = some n) (hg : Gl X "isinstance") (hm : X.mg "isinstance" = none) (hv : bootBuiltins "isinstance" = some (.builtin "isinstance")) (ha : PE X a (tE T Wx ra))
    (hgy : Gl X y) (hmy : X.mg y = none) (hvy : bootBuiltins y = some (.type n)) (hny : y ≠ "__name__") (hdy : (y == ("__debug__" : Str)) = false)
    (hs : starEach [a, .Name y p2] X.env = (false, eval a X.env) :: starEach [.Name y p2] X.env) : PE X (.Call (.Name "isinstance" p) [a, .Name y p2] [] pos) (tE T Wx (evIsi t ra)) := by
  refine PE.imp (pe_callB call_isi hg hm hv (pa_cons (PE.imp ha fun _ _ _ => tE_of_tD) (pa_cons (pe_bltn (v := V.ty n) hgy hmy hvy rfl hny hdy) pa_nil) hs) (by decide) (by decide) hs) fun σ H Q h => tIsi h ?_
  intro Rs m G e H v d k b g s dn h3 h4 hq
  refine ⟨v, .ty n, k.val T, .type n, b, rfl, .ty n, ?_, ?_, hq m H (Wd.le.refl _) g s⟩
  · rw [hK]; exact tyD_at hC g s dn h3
  · rw [hK]; exact kit_one hI ht h4
theorem x_isc (hK : X.K = T.K) (hC : ∀ c, ClsL T c) (hI : ∀ c, IsL T c) {c : Nat} {y : Str} {a : Expr} {p p2 pos : Pos} {ra : Ev} (hg : Gl X "isinstance") (hm : X.mg "isinstance" = none) (hv : bootBuiltins "isinstance" = some (.builtin "isinstance")) (ha : PE X a (tE T Wx ra))
    (hgy : Gl X y) (hmy : X.mg y = some (.ref (T.ca c))) (hdy : (y == ("__debug__" : Str)) = false)
    (hs : starEach [a, .Name y p2] X.env = (false, eval a X.env) :: starEach [.Name y p2] X.env) : PE X (.Call (.Name "isinstance" p) [a, .Name y p2] [] pos) (tE T Wx (evIsi (.cls c) ra)) := by
  refine PE.imp (pe_callB call_isi hg hm hv (pa_cons (PE.imp ha fun _ _ _ => tE_of_tD) (pa_cons (pe_glob (v := V.ref (T.ca c)) hgy hmy rfl hdy) pa_nil) hs) (by decide) (by decide) hs) fun σ H Q h => tIsi h ?_
  intro Rs m G e H v d k b g s dn h3 h4 hq
  refine ⟨v, .ref (T.ca c), k.val T, .ref (T.ca c), b, rfl, .own _, ?_, ?_, hq m H (Wd.le.refl _) g s⟩
  · rw [hK]; exact tyD_at hC g s dn h3
  · rw [hK]; exact kit_cls hI h4
theorem kit_lt (hI : ∀ c, IsL T c) {k : TN} {b : Bool} (h : tyIs .lt k = some b) : PySem.W.kitAny T.K (k.val T) [.type "list", .type "tuple"] = some b := by
  have one : ∀ n ∈ tyNames, PySem.W.kitOne T.K (.type n) (.type "list") = some (n == "list") ∧ PySem.W.kitOne T.K (.type n) (.type "tuple") = some (n == "tuple") := fun n hn => by
    simp only [tyNames, List.mem_cons, List.mem_nil_iff, or_false] at hn
    rcases hn with rfl | rfl | rfl | rfl | rfl | rfl | rfl <;> exact ⟨kit_ty (by decide +kernel), kit_ty (by decide +kernel)⟩
  cases k with
  | own c =>
    cases h
    exact kitAny_cons ((hI c).own "list" (by decide)) (fun _ => kitAny_cons ((hI c).own "tuple" (by decide)) (fun _ => kitAny_nil) (fun z => by cases z)) (fun z => by cases z)
  | lst => cases h; exact kitAny_cons (one "list" (by decide)).1 (fun z => by cases z) (fun _ => rfl)
  | tup => cases h; exact kitAny_cons (one "tuple" (by decide)).1 (fun _ => kitAny_cons (one "tuple" (by decide)).2 (fun z => by cases z) (fun _ => rfl)) (fun z => by cases z)
  | non => cases h; exact kitAny_cons (one "NoneType" (by decide)).1 (fun _ => kitAny_cons (one "NoneType" (by decide)).2 (fun _ => kitAny_nil) (fun z => by cases z)) (fun z => by cases z)
  | bl => cases h; exact kitAny_cons (one "bool" (by decide)).1 (fun _ => kitAny_cons (one "bool" (by decide)).2 (fun _ => kitAny_nil) (fun z => by cases z)) (fun z => by cases z)
  | int => cases h; exact kitAny_cons (one "int" (by decide)).1 (fun _ => kitAny_cons (one "int" (by decide)).2 (fun _ => kitAny_nil) (fun z => by cases z)) (fun z => by cases z)
  | str => cases h; exact kitAny_cons (one "str" (by decide)).1 (fun _ => kitAny_cons (one "str" (by decide)).2 (fun _ => kitAny_nil) (fun z => by cases z)) (fun z => by cases z)
  | dct => cases h; exact kitAny_cons (one "dict" (by decide)).1 (fun _ => kitAny_cons (one "dict" (by decide)).2 (fun _ => kitAny_nil) (fun z => by cases z)) (fun z => by cases z)
theorem x_islt (hK : X.K = T.K) (hC : ∀ c, ClsL T c) (hI : ∀ c, IsL T c) {a : Expr} {p p2 p3 p4 pos : Pos} {n : Nat} {ra : Ev} (hg : Gl X "isinstance") (hm : X.mg "isinstance" = none) (hv : bootBuiltins "isinstance" = some (.builtin "isinstance")) (ha : PE X a (tE T Wx ra))
    (hgl : Gl X "list") (hml : X.mg "list" = none) (hgt : Gl X "tuple") (hmt : X.mg "tuple" = none)
    (hs : starEach [a, .Tuple [.Name "list" p2, .Name "tuple" p3] n p4] X.env = (false, eval a X.env) :: starEach [.Tuple [.Name "list" p2, .Name "tuple" p3] n p4] X.env) : PE X (.Call (.Name "isinstance" p) [a, .Tuple [.Name "list" p2, .Name "tuple" p3] n p4] [] pos) (tE T Wx (evIsi .lt ra)) := by
  refine PE.imp (pe_callB call_isiT hg hm hv (pa_cons (PE.imp ha fun _ _ _ => tE_of_tD) (pa_cons (pe_tup (pa_cons (pe_bltn (v := V.ty "list") hgl hml boot_list rfl (by decide) (by decide)) (pa_cons (pe_bltn (v := V.ty "tuple") hgt hmt boot_tuple rfl (by decide) (by decide)) pa_nil))) pa_nil) hs) (by decide) (by decide) hs) fun σ H Q h => tIsi h ?_
  intro Rs m G e H v d k b g s dn h3 h4 hq
  show (sizeLine : Nat) ≥ 2 ∧ _
  refine ⟨by decide, fun q hq0 => ?_⟩
  have k0 : ∀ p o, H p = some o → upd H q (.tup [V.ty "list", V.ty "tuple"]) p = some o := fun q' o h => by rw [upd_ne (ne_of_none h hq0)]; exact h
  have g' := g.keep k0
  have s' := s.keep k0
  refine ⟨v, q, _, k.val T, [.type "list", .type "tuple"], b, rfl, upd_same, .cons (.ty _) (.cons (.ty _) .nil), ?_, ?_, hq m _ (Wd.le.refl _) g' s'⟩
  · rw [hK]; exact tyD_at hC g' s' dn h3
  · rw [hK]; exact kit_lt hI h4
/-! ### dicts -/
theorem x_dct0 {t : Bool} {pos : Pos} : PE X (.Dict [] [] pos) (tE T Wx fun e G => .ok (.f (if t then .dT [] else .dK [])) e G) := by
  cases t with
  | true =>
    refine PE.imp pe_dnewT fun σ H Q ⟨Rs, m, G, e, g, s, h⟩ p hp => ?_
    obtain ⟨g2, s2, d2⟩ := new_obj (o := .dT []) (q := .dT []) g s hp ⟨[], upd_same, rfl⟩
    exact h m _ (Wd.le.refl _) g2 s2 _ d2
  | false =>
    refine PE.imp pe_dnewK fun σ H Q ⟨Rs, m, G, e, g, s, h⟩ p hp => ?_
    obtain ⟨g2, s2, d2⟩ := new_obj (o := .dK []) (q := .dK []) g s hp ⟨[], upd_same, rfl⟩
    exact h m _ (Wd.le.refl _) g2 s2 _ d2
end
end Mn
/-! Mn12: calls. -/
namespace Mn
open PySem PySem.Spec PyProof.Rows L2
section
variable {T : Tb} {Rs : Hp} {Wx : WX} {m : Wd} {σ : L2.St} {G : List O} {e : List S} {H : Hp} {X : Cx}
/-- what a call tells -/
def OkC (T : Tb) (Rs : Hp) (m : Wd) (r : RC) (Q : VK) (E : XK) : Prop := match r with
  | .ok w G => ∀ v m' H', m.le m' → RlG T Rs m' G H' → DenW T Rs m' [] [] H' w v → Q v H'
  | .ex x G => ∀ cls d m' H', m.le m' → RlG T Rs m' G H' → DenX T m' H' x cls d → E cls d H'
  | .no => False
/-- a def, by what its calls yield -/
def spF (T : Tb) (cl : Call) (f np : Nat) : Sp := fun vs H Q E => vs.length = np ∧ ∃ Rs m G ds, m.an = none ∧ RlG T Rs m G H ∧ DenL T m ds vs ∧ OkC T Rs m (cl f ds G) Q E
/-- .. an __init__: a result for the object at x -/
def OkI (T : Tb) (Rs : Hp) (m : Wd) (x : Addr) (r : RC) (Q : VK) (E : XK) : Prop := match r with
  | .ok w G => ∀ m' H', m.le m' → RlG T Rs m' G H' → DenW T Rs m' [] [] H' w (.ref x) → Q .non H'
  | .ex x G => ∀ cls d m' H', m.le m' → RlG T Rs m' G H' → DenX T m' H' x cls d → E cls d H'
  | .no => False
def spI (T : Tb) (cl : Call) (f c np : Nat) : Sp := fun vs H Q E => ∃ x dx vs', vs = .ref x :: vs' ∧ vs'.length = np ∧ H x = some (.ins (T.ca c) dx []) ∧
  ∃ Rs m G ds, m.an = none ∧ RlG T Rs m G H ∧ Rs x = none ∧ m.F x = none ∧ x ∉ m.r ∧ DenL T m ds vs' ∧ OkI T Rs m x (cl f ds G) Q E
/-- what a call leaves alone -/
noncomputable def rest (m : Wd) (H : Hp) : Hp := fun p => open Classical in if m.F p = none ∧ p ∉ m.r ∧ ∀ xs, H p ≠ some (.tup xs) then H p else none
theorem rest_some {p : Addr} {o : HO} (h : rest m H p = some o) : m.F p = none ∧ p ∉ m.r ∧ (∀ xs, o ≠ .tup xs) ∧ H p = some o := by
  unfold rest at h
  split at h
  · rename_i k
    exact ⟨k.1, k.2.1, fun xs z => k.2.2 xs (by rw [h, z]), h⟩
  · cases h
theorem rest_of {p : Addr} (h1 : m.F p = none) (h2 : p ∉ m.r) (h3 : ∀ xs, H p ≠ some (.tup xs)) : rest m H p = H p := by
  unfold rest
  rw [if_pos ⟨h1, h2, h3⟩]
theorem DenO.ntup {o : O} {p : Addr} {fz : Bool} (h : DenO T m H fz o p) : ∀ xs, H p ≠ some (.tup xs) := fun xs z => by
  cases o with
  | lst ds =>
    obtain ⟨ys, q, _⟩ := h
    rcases q with q | ⟨_, ob, q⟩ <;> (rw [q] at z; cases z)
  | dK kvs => obtain ⟨ys, q, _⟩ := h; rw [q] at z; cases z
  | dT kvs => obtain ⟨ys, q, _⟩ := h; rw [q] at z; cases z
  | ins c ds => obtain ⟨dx, ys, q, _⟩ := h; rw [q] at z; cases z
def Wd.bare (m : Wd) : Wd := ⟨m.F, m.r, none⟩
theorem Wd.sub_bare {m : Wd} : m.sub m.bare := ⟨fun _ _ z => z, fun _ _ z => z⟩
def Wd.withAn (m : Wd) (a : Option Addr) : Wd := ⟨m.F, m.r, a⟩
theorem RlG.sub {m' : Wd} (g : RlG T Rs m G H) (hF : m'.F = m.F) (hr : m'.r = m.r) : RlG T Rs m' G H := by
  have s : m.sub m' := ⟨fun p o h => by rw [hF]; exact h, fun n p h => by rw [hr]; exact h⟩
  refine ⟨?_, ?_, ?_, ?_, fun n p o h1 h2 => ?_⟩
  · rw [hF]; exact g.fz
  · rw [hF, hr]; exact g.rs
  · rw [hr]; exact g.gl
  · rw [hr]; exact g.gi
  · rw [hr] at h1
    rw [hF]
    exact ⟨(g.g n p o h1 h2).1, DenO.subm s (fun _ _ z => z) o p (g.g n p o h1 h2).2⟩
theorem RlG.rest (g : RlG T Rs m G H) : RlG T (rest m H) m G H := ⟨g.fz, fun p o h => by
  obtain ⟨a, b, c, d⟩ := rest_some h
  exact ⟨d, a, b, c⟩, g.gl, g.gi, g.g⟩
theorem RlG.inRest (g : RlG T Rs m G H) {p : Addr} {o : HO} (h : Rs p = some o) : Mn.rest m H p = some o := by
  obtain ⟨a, b, c, d⟩ := g.rs p o h
  rw [rest_of b c (fun xs z => d xs (by rw [a] at z; cases z; rfl))]
  exact a
theorem RlG.less {Rs' : Hp} (g : RlG T Rs' m G H) (h : ∀ p o, Rs p = some o → Rs' p = some o) : RlG T Rs m G H := ⟨g.fz, fun p o q => g.rs p o (h p o q), g.gl, g.gi, g.g⟩
theorem none_of {Rs' : Hp} (h : ∀ p o, Rs p = some o → Rs' p = some o) {p : Addr} (q : Rs' p = none) : Rs p = none := by
  cases k : Rs p with
  | none => rfl
  | some o => rw [h p o k] at q; cases q
/-- the caller's slots behind a call -/
theorem RlS.back {H' : Hp} {m' : Wd} {G' : List O} (s : RlS T Rs m e σ H) (le : m.sub m') (ha : m'.an = m.an) (g' : RlG T (rest m H) m' G' H') : RlS T Rs m' e σ H' where
  len := s.len
  d := fun i x q => by
    obtain ⟨v, h1, h2⟩ := s.d i x q
    exact ⟨v, h1, Den.subm le x v h2⟩
  o := fun i o q => by
    obtain ⟨p, h1, h2, h3, h4, h5⟩ := s.o i o q
    have hr : Mn.rest m H p = H p := rest_of h2 h4 h5.ntup
    cases hp : H p with
    | none => exact absurd hp h5.there
    | some u =>
      obtain ⟨k1, k2, k3, _⟩ := g'.rs p u (by rw [hr, hp])
      refine ⟨p, h1, k2, h3, k3, ?_⟩
      exact (DenO.subm le (fun _ _ z => z) o p h5).at (by rw [k1, hp])
  an := fun p hp => s.an p (by rw [← ha]; exact hp)
  oi := s.oi
theorem own_rest (s : RlS T Rs m e σ H) {p : Addr} (h : rest m H p = none) : ∀ (i : Nat) (q : O), e[i]? = some (.own q) → σ[i]? ≠ some (some (.ref p)) := fun i q hq z => by
  obtain ⟨p', h1, h2, h3, h4, h5⟩ := s.o i q hq
  rw [z] at h1
  cases h1
  rw [rest_of h2 h4 h5.ntup] at h
  exact h5.there h
theorem DenW.sub0 {Rs' : Hp} {m' : Wd} {w : W} {v : V} (s : m.sub m') (h : ∀ p, Rs' p = none → Rs p = none) (hm : m'.F = m.F) (hr : m'.r = m.r) (hO : ∀ p, Rs' p = none → ∀ (i : Nat) (q : O), e[i]? = some (.own q) → σ[i]? ≠ some (some (.ref p))) (d : DenW T Rs' m [] [] H w v) : DenW T Rs m' e σ H w v := by
  cases w with
  | d x => exact Den.subm s x v d
  | f o =>
    obtain ⟨p, rfl, h1, h2, h3, _, h5⟩ := d
    exact ⟨p, rfl, by rw [hm]; exact h1, h p h2, by rw [hr]; exact h3, hO p h2, DenO.subm s (fun _ _ z => z) o p h5⟩
  | b i => exact absurd d (by show ¬ ([] : L2.St)[i]? = _; simp)
  | k ds =>
    obtain ⟨p, xs, h1, h2, h3⟩ := d
    exact ⟨p, xs, h1, h2, DenL.subm s ds xs h3⟩
theorem DenX.sub {m' : Wd} {x : XV} {cls : Value} {d : Option Addr} (s : m.sub m') (h : DenX T m H x cls d) : DenX T m' H x cls d := by
  obtain ⟨h1, h2⟩ := h
  refine ⟨h1, h2.elim .inl fun ⟨dx, xs, a, b, c⟩ => .inr ⟨dx, xs, a, b, DenL.subm s _ xs c⟩⟩
/-- from the caller's wish to the callee's -/
theorem okC_of {Q : VK} {r : RC} (g : RlG T Rs m G H) (s : RlS T Rs m e σ H) (h : OkR T Rs Wx m σ (ofRC r e) fun w m' e' G' H' => ∀ v, DenW T Rs m' e' σ H' w v → Q v H') : OkC T (rest m H) m.bare r Q (WE Wx σ) := by
  have hRs : ∀ p o, Rs p = some o → rest m H p = some o := fun p o q => g.inRest q
  cases r with
  | no => exact h.elim
  | ok w G' =>
    intro v m' H' le g' dw
    have sb : m'.sub (m'.withAn m.an) := ⟨fun _ _ z => z, fun _ _ z => z⟩
    have le2 : m.le (m'.withAn m.an) := ⟨⟨le.1.1, le.1.2⟩, rfl⟩
    have g2 : RlG T (rest m H) (m'.withAn m.an) G' H' := g'.sub rfl rfl
    exact h _ H' le2 (g2.less hRs) (s.back le2.1 le2.2 g2) v (DenW.sub0 sb (fun p q => none_of hRs q) rfl rfl (fun p q => own_rest s q) dw)
  | ex x G' =>
    intro cls d m' H' le g' dx
    have sb : m'.sub (m'.withAn m.an) := ⟨fun _ _ z => z, fun _ _ z => z⟩
    have le2 : m.le (m'.withAn m.an) := ⟨⟨le.1.1, le.1.2⟩, rfl⟩
    have g2 : RlG T (rest m H) (m'.withAn m.an) G' H' := g'.sub rfl rfl
    exact h cls d _ H' le2 (g2.less hRs) (s.back le2.1 le2.2 g2) (dx.sub sb)
theorem spF_of {Q : VK} {cl : Call} {f np : Nat} {ds : List D} {vs : List V} (g : RlG T Rs m G H) (s : RlS T Rs m e σ H) (dl : DenL T m ds vs) (hn : vs.length = np) (h : OkR T Rs Wx m σ (ofRC (cl f ds G) e) fun w m' e' G' H' => ∀ v, DenW T Rs m' e' σ H' w v → Q v H') :
    spF T cl f np vs H Q (WE Wx σ) :=
  ⟨hn, rest m H, m.bare, G, ds, rfl, g.rest.sub rfl rfl, DenL.subm (m' := m.bare) Wd.sub_bare ds vs dl, okC_of g s h⟩
def evCall (cl : Call) (f : Nat) (rs : List S → List O → R (List D)) : Ev := fun e G => (rs e G).bind fun xs e G => ofRC (cl f xs G) e
variable {CX : CXT} {k np : Nat} {f : Nat} {fd : FuncData} {ps : List Str} {cl : Call} {x : Str} {p pos apos : Pos} {a : Expr} {es : List Expr} {rs : List S → List O → R (List D)}
/-- the arguments' number -/
def Len (rs : List S → List O → R (List D)) (n : Nat) : Prop := ∀ e G xs e' G', rs e G = .ok xs e' G' → xs.length = n
theorem tCall (hl : Len rs np) {σ : L2.St} {H : Hp} {Q : VK} (h : tE T Wx (evCall cl f rs) σ H Q) : tCallS (spF T cl f np) (WE Wx) (tDs T Wx rs) σ H Q := by
  obtain ⟨Rs, m, G, e, g, s, h⟩ := h
  refine ⟨Rs, m, G, e, g, s, ?_⟩
  unfold evCall at h
  cases q : rs e G with
  | no => rw [q] at h; exact h
  | ex x e' G' => rw [q] at h; exact h
  | ok xs e' G' =>
    rw [q] at h
    intro m1 H1 l1 g1 s1 vs dl
    exact spF_of g1 s1 dl (by rw [← dl.length]; exact hl _ _ _ _ _ q) (OkR.le h l1)
theorem x_call (hl : Len rs np) (F : FnOk X.prog X.w X.K X.mg X.base (L2.CX X.prog X.w) k (T.fa f) fd ps (spF T cl f np)) (hr : Room k X.A) (hg : Gl X x) (hm : X.mg x = some (.ref (T.fa f))) (hk : PySem.W.keepIn X.K (.ref (T.fa f)) = true) (hb : Binds X.K fd ps []) (tk : Takes X Wx)
    (ha : PA X (a :: es) (tDs T Wx rs)) (hdb : (x == ("__debug__" : Str)) = false) (he : starEach (a :: es) X.env = (false, eval a X.env) :: starEach es X.env) (hpl : (backTo pos (starEach es X.env)).any (·.1) = false) :
    PE X (.Call (.Name x p) (a :: es) [] pos) (tE T Wx (evCall cl f rs)) :=
  PE.imp (pe_callS F hr hg hm hk hb (fun σ => passAt tk σ) ha hdb he hpl) fun _ _ _ => tCall hl
theorem x_call0 (hl : Len rs np) (F : FnOk X.prog X.w X.K X.mg X.base (L2.CX X.prog X.w) k (T.fa f) fd ps (spF T cl f np)) (hr : Room k X.A) (hg : Gl X x) (hm : X.mg x = some (.ref (T.fa f))) (hk : PySem.W.keepIn X.K (.ref (T.fa f)) = true) (hb : Binds X.K fd ps []) (tk : Takes X Wx)
    (hrs : rs = fun e G => .ok [] e G) (hdb : (x == ("__debug__" : Str)) = false) :
    PE X (.Call (.Name x p) [] [] pos) (tE T Wx (evCall cl f rs)) := by
  subst hrs
  refine ⟨fun pins s σ H Q I h => ?_⟩
  refine wpAny_Call_Name_kw (ld_glob I hg hm ?_ hdb)
  obtain ⟨Rs, m, G, e, g, sl, h⟩ := h
  have hn : ([] : List V).length = np := hl [] [] [] [] [] rfl
  exact PySem.W.callWith_K0 I.kIn hk (run_fnS (us := []) F hr hb (passAt tk σ) I .nil (spF_of (ds := []) g sl rfl hn h))
/-! ### methods -/
def evMth (cl : Call) (f c : Nat) (ra : Ev) (rs : List S → List O → R (List D)) : Ev := fun e G => (ra e G).toD.bind fun x e G => (match insOf G x with
    | some (c', _) => if c = c' then (rs e G).bind fun xs e G => ofRC (cl f (x :: xs) G) e else .no
    | none => .no)
def tMethS (C : Addr) (mn : Str) (sp : Sp) (E : L2.St → XK) (ta : TE) (t : TA) : TE := fun σ H Q => ta σ H fun x H1 => ∃ a dx fs, x = .ref a ∧ H1 a = some (.ins C dx fs) ∧ fs.lookup mn = none ∧ t σ H1 fun vs H2 => sp (.ref a :: vs) H2 Q (E σ)
theorem insOf_rd {x : D} : insOf G x = insW e G (.d x) := by
  cases x with
  | obj o => cases o <;> rfl
  | g n =>
    show (match G[n]? with | some (.ins c fs) => some (c, fs) | _ => none) = (match G[n]? with | some (.ins c fs) => some (c, fs) | _ => none)
    rfl
  | _ => rfl
theorem look_none {α : Type} : ∀ {names : List Str} {xs : List α} {f : Str}, f ∉ names → (names.zip xs).lookup f = none
  | [], _, _, _ => by simp
  | n :: names, [], _, _ => by simp
  | n :: names, x :: xs, f, h => by
    rw [List.zip_cons_cons, List.lookup_cons]
    have ne : (f == n) = false := beq_eq_false_iff_ne.mpr fun z => h (z ▸ List.mem_cons_self)
    rw [ne]
    exact look_none fun z => h (List.mem_cons_of_mem _ z)
theorem tMth {ra : Ev} {c : Nat} {mn : Str} (hl : Len rs np) (hf : mn ∉ T.fl c) {σ : L2.St} {H : Hp} {Q : VK} (h : tE T Wx (evMth cl f c ra rs) σ H Q) : tMethS (T.ca c) mn (spF T cl f (np + 1)) (WE Wx) (tD T Wx fun e G => (ra e G).toD) (tDs T Wx rs) σ H Q := by
  obtain ⟨Rs, m, G, e, g, s, h⟩ := h
  refine ⟨Rs, m, G, e, g, s, OkR.thn h fun d1 m1 e1 G1 H1 l1 g1 s1 h1 v1 dn1 => ?_⟩
  cases q : insOf G1 d1 with
  | none => rw [q] at h1; exact h1.elim
  | some z =>
    obtain ⟨c', fs⟩ := z
    rw [q] at h1
    dsimp only at h1
    by_cases ec : c = c'
    · subst ec
      rw [if_pos rfl] at h1
      rw [insOf_rd (e := e1)] at q
      obtain ⟨p, dx, xs, rfl, h3, _, _⟩ := insW_at g1 s1 (show DenW T Rs m1 e1 σ H1 (.d d1) v1 from dn1) q
      refine ⟨p, dx, _, rfl, h3, look_none hf, Rs, m1, G1, e1, g1, s1, ?_⟩
      cases q2 : rs e1 G1 with
      | no => rw [q2] at h1; exact h1
      | ex x e' G' => rw [q2] at h1; exact h1
      | ok ys e' G' =>
        rw [q2] at h1
        intro m2 H2 l2 g2 s2 vs dl
        refine spF_of (ds := d1 :: ys) g2 s2 ⟨_, _, rfl, Den.mono l2 d1 _ dn1, dl⟩ ?_ (OkR.le h1 l2)
        rw [List.length_cons, ← dl.length, hl _ _ _ _ _ q2]
    · rw [if_neg ec] at h1
      exact h1.elim
theorem x_mth {o : Expr} {mn : Str} {c : Nat} {ra : Ev} {pl : Sem Bool} (hK : X.K = T.K) (hl : Len rs np) (hf : mn ∉ T.fl c) (hc : ClsL T c) (ho : PE X o (tE T Wx ra)) (hm : Meth T.K (T.ca c) mn (T.fa f)) (F : FnOk X.prog X.w X.K X.mg X.base (L2.CX X.prog X.w) k (T.fa f) fd ps (spF T cl f (np + 1))) (hr : Room k X.A) (hb : Binds X.K fd ps []) (tk : Takes X Wx)
    (ha : PA X (a :: es) (tDs T Wx rs)) (hst : starEach (a :: es) X.env = (false, eval a X.env) :: starEach es X.env) (hpl : (backTo pos (starEach es X.env)).any (·.1) = false)
    (ht : eval (.Call (.Attribute o mn apos) (a :: es) [] pos) X.env = (do
      let ov ← eval o X.env
      standAt apos.atName
      let (f, first) ← holding [ov] (getMethod ov mn pl)
      callWith pos f first (backTo pos (starEach (a :: es) X.env)) (backToKw pos (keywordEach [] X.env)))) :
    PE X (.Call (.Attribute o mn apos) (a :: es) [] pos) (tE T Wx (evMth cl f c ra rs)) := by
  refine ⟨fun pins s σ H Q I h => ?_⟩
  have h := tMth hl hf h
  have hcls := hc.cls
  rw [← hK] at hcls hm
  refine PySem.W.methodCall_KW (pl := pl) (thn ((PE.imp ho fun _ _ _ => tE_of_tD).run pins s σ H _ I h) fun u s1 ⟨x, H1, I1, rx, a, dx, fs, ex, ea, l, q⟩ => ?_) ht
  subst ex
  obtain rfl : u = Value.ref a := rx
  refine getmeth_ok I1 ea hcls hm l ?_
  refine PySem.W.callWith_K (first := [.ref a]) (h₀ := X.base) I.ok.mod.kin hm.kp (thn (ha.run pos pins s1 σ H1 _ I1 q) fun us s2 ⟨vs, H2, I2, r, q2⟩ => ⟨I2.kIn, ?_⟩) hst hpl
  exact run_fnS (us := .ref a :: us) (vs := .ref a :: vs) F hr hb (passAt tk σ) I2 (.cons rfl r) q2
theorem x_mth0 {o : Expr} {mn : Str} {c : Nat} {ra : Ev} {pl : Sem Bool} (hK : X.K = T.K) (hl : Len rs np) (hf : mn ∉ T.fl c) (hc : ClsL T c) (ho : PE X o (tE T Wx ra)) (hm : Meth T.K (T.ca c) mn (T.fa f)) (F : FnOk X.prog X.w X.K X.mg X.base (L2.CX X.prog X.w) k (T.fa f) fd ps (spF T cl f (np + 1))) (hr : Room k X.A) (hb : Binds X.K fd ps []) (tk : Takes X Wx)
    (hrs : rs = fun e G => .ok [] e G)
    (ht : eval (.Call (.Attribute o mn apos) [] [] pos) X.env = (do
      let ov ← eval o X.env
      standAt apos.atName
      let (f, first) ← holding [ov] (getMethod ov mn pl)
      callWith pos f first (backTo pos (starEach [] X.env)) (backToKw pos (keywordEach [] X.env)))) :
    PE X (.Call (.Attribute o mn apos) [] [] pos) (tE T Wx (evMth cl f c ra rs)) := by
  refine ⟨fun pins s σ H Q I h => ?_⟩
  have h := tMth hl hf h
  have hcls := hc.cls
  rw [← hK] at hcls hm
  refine PySem.W.methodCall_KW (pl := pl) (thn ((PE.imp ho fun _ _ _ => tE_of_tD).run pins s σ H _ I h) fun u s1 ⟨x, H1, I1, rx, a, dx, fs, ex, ea, l, q⟩ => ?_) ht
  subst ex hrs
  obtain rfl : u = Value.ref a := rx
  refine getmeth_ok I1 ea hcls hm l ?_
  obtain ⟨Rs, m, G, e, g, sl, q⟩ := q
  exact PySem.W.callWith_K0 (first := [.ref a]) I1.kIn hm.kp (run_fnS (us := [.ref a]) (vs := [.ref a]) F hr hb (passAt tk σ) I1 (.cons rfl .nil) (q m H1 (Wd.le.refl _) g sl [] rfl))
/-! ### new instances -/
theorem run_makeS {E : L2.St → XK} {C f : Addr} {sp : Sp} {pins : List (Addr × Obj)} {σ : L2.St} {H : Hp} {s : Shared} {Q : VK} {us : List Value} {vs : List V} (M : Mk X.K C f) (F : FnOk X.prog X.w X.K X.mg X.base CX k f fd ps sp) (hr : Room (k + 1) X.A) (hb : Binds X.K fd ps [])
    (hx : PassesAt CX X σ (E σ)) (I : Inv X pins σ H s) (r : Vals vs us)
    (h : ∀ x dx, H x = none → H dx = none → dx ≠ x → sp (.ref x :: vs) (upd (upd H dx (.own x)) x (.ins C dx [])) (fun v H2 => v = .non ∧ Q (.ref x) H2) (E σ)) :
    wpAny (model X.prog X.w) X.A (call (.ref C) us) (EP X pins σ Q) X.xe s :=
  let d := s.heap.objs.size
  have fresh {b : Addr} (l : d ≤ b) : H b = none := I.hok.fresh l
  have own := h (d + 1) d (fresh (Nat.le_succ d)) (fresh (Nat.le_refl d)) (Nat.ne_of_lt (Nat.lt_succ_self d))
  have both : Vals (.ref (d + 1) :: vs) (.ref (d + 1) :: us) := .cons rfl r
  have J := I.made (C := C)
  have bound := hb _ (.ref (d + 1) :: us) J.kIn (by rw [List.append_nil, ← both.length]; exact F.len _ _ _ _ own)
  have body := F.run _ X.stack _ _ ⟨.ref (d + 1) :: us, []⟩ _ _ _ (E σ) (hr.make C us []) (J.env0.make C us []) (by rwa [List.append_nil] at bound) both own
  wpAny_call (make_map (f := f) I.kIn M.makes M.init (beq_iff_eq.mp M.fn) (codeAny_mono body fun
    | .error e, s', z => hx pins _ _ e s' J z
    | .ok (.ret u), s', z => let ⟨v, H', K, rv, ev, y⟩ := J.after z; by subst ev; exact ⟨rv, .ref (d + 1), H', K, rfl, y⟩
    | .ok .next, _, z | .ok .brk, _, z | .ok .cont, _, z => z.elim))
theorem spI_of {Q : VK} {c : Nat} {x dx : Addr} {ds : List D} {vs : List V} (g : RlG T Rs m G H) (s : RlS T Rs m e σ H) (dl : DenL T m ds vs) (hn : vs.length = np) (h : OkR T Rs Wx m σ (ofRC (cl f ds G) e) fun w m' e' G' H' => ∀ v, DenW T Rs m' e' σ H' w v → Q v H')
    (hx : H x = none) (hdx : H dx = none) (hne : dx ≠ x) : spI T cl f c np (.ref x :: vs) (upd (upd H dx (.own x)) x (.ins (T.ca c) dx [])) (fun v H2 => v = .non ∧ Q (.ref x) H2) (WE Wx σ) := by
  have k : ∀ p o, H p = some o → upd (upd H dx (.own x)) x (.ins (T.ca c) dx []) p = some o := fun p o q => by
    rw [upd_ne (ne_of_none q hx), upd_ne (ne_of_none q hdx)]
    exact q
  have g2 := (g.keep k).rest.sub (m' := m.bare) rfl rfl
  have s2 := s.keep k
  -- what is left alone: as it stood ahead of the new object
  have hR : rest m H x = none := by
    cases q : rest m H x with
    | none => rfl
    | some o => have := (rest_some q).2.2.2; rw [hx] at this; cases this
  have g3 : RlG T (rest m H) m.bare G (upd (upd H dx (.own x)) x (.ins (T.ca c) dx [])) := ((g.rest.keep k).sub rfl rfl)
  refine ⟨x, dx, vs, rfl, hn, upd_same, rest m H, m.bare, G, ds, rfl, g3, hR, g.freeF hx, g.freeG hx, DenL.subm (m' := m.bare) Wd.sub_bare ds vs dl, ?_⟩
  have oc := okC_of g s h
  cases r : cl f ds G with
  | no => rw [r] at oc; exact oc.elim
  | ok w G' =>
    rw [r] at oc
    exact fun m' H' le g' dw => ⟨rfl, oc (.ref x) m' H' le g' dw⟩
  | ex x G' =>
    rw [r] at oc
    exact fun cls d m' H' le g' dw => oc cls d m' H' le g' dw
theorem x_mk {c : Nat} (hK : X.K = T.K) (hl : Len rs np) (M : Mk T.K (T.ca c) (T.fa f)) (F : FnOk X.prog X.w X.K X.mg X.base (L2.CX X.prog X.w) k (T.fa f) fd ps (spI T cl f c np)) (hr : Room (k + 1) X.A) (hg : Gl X x) (hm : X.mg x = some (.ref (T.ca c))) (hb : Binds X.K fd ps []) (tk : Takes X Wx)
    (ha : PA X (a :: es) (tDs T Wx rs)) (hdb : (x == ("__debug__" : Str)) = false) (he : starEach (a :: es) X.env = (false, eval a X.env) :: starEach es X.env) (hpl : (backTo pos (starEach es X.env)).any (·.1) = false) :
    PE X (.Call (.Name x p) (a :: es) [] pos) (tE T Wx (evCall cl f rs)) := by
  rw [← hK] at M
  refine ⟨fun pins s σ H Q I h => ?_⟩
  refine wpAny_Call_Name_kw (ld_glob I hg hm ?_ hdb)
  obtain ⟨Rs, m, G, e, g, sl, h⟩ := h
  unfold evCall at h
  have hh : tDs T Wx rs σ H fun vs H1 => ∀ x dx, H1 x = none → H1 dx = none → dx ≠ x → spI T cl f c np (.ref x :: vs) (upd (upd H1 dx (.own x)) x (.ins (T.ca c) dx [])) (fun v H2 => v = .non ∧ Q (.ref x) H2) (WE Wx σ) := by
    refine ⟨Rs, m, G, e, g, sl, ?_⟩
    cases q : rs e G with
    | no => rw [q] at h; exact h
    | ex x e' G' => rw [q] at h; exact h
    | ok xs e' G' =>
      rw [q] at h
      intro m1 H1 l1 g1 s1 vs dl x dx hx hdx hne
      exact spI_of g1 s1 dl (by rw [← dl.length]; exact hl _ _ _ _ _ q) (OkR.le h l1) hx hdx hne
  refine PySem.W.callWith_K (h₀ := X.base) I.ok.mod.kin M.kp (thn (ha.run pos pins s σ H _ I hh) fun us s1 ⟨vs, H1, I1, r, q⟩ => ⟨I1.kIn, ?_⟩) he hpl
  exact run_makeS M F hr hb (passAt tk σ) I1 r q
theorem x_mk0 {c : Nat} (hK : X.K = T.K) (hl : Len rs np) (M : Mk T.K (T.ca c) (T.fa f)) (F : FnOk X.prog X.w X.K X.mg X.base (L2.CX X.prog X.w) k (T.fa f) fd ps (spI T cl f c np)) (hr : Room (k + 1) X.A) (hg : Gl X x) (hm : X.mg x = some (.ref (T.ca c))) (hb : Binds X.K fd ps []) (tk : Takes X Wx)
    (hrs : rs = fun e G => .ok [] e G) (hdb : (x == ("__debug__" : Str)) = false) :
    PE X (.Call (.Name x p) [] [] pos) (tE T Wx (evCall cl f rs)) := by
  subst hrs
  rw [← hK] at M
  refine ⟨fun pins s σ H Q I h => ?_⟩
  refine wpAny_Call_Name_kw (ld_glob I hg hm ?_ hdb)
  obtain ⟨Rs, m, G, e, g, sl, h⟩ := h
  have hn : ([] : List V).length = np := hl [] [] [] [] [] rfl
  exact PySem.W.callWith_K0 I.kIn M.kp (run_makeS (us := []) M F hr hb (passAt tk σ) I .nil fun x dx hx hdx hne => spI_of (ds := []) g sl rfl hn h hx hdx hne)
end
end Mn
/-! Mn13: statements' readings, targets, loops. -/
namespace Mn
open PySem PySem.Spec PyProof.Rows L2
section
variable {T : Tb} {Rs : Hp} {Wx : WX} {m : Wd} {σ : L2.St} {G : List O} {e : List S} {H : Hp} {X : Cx}
theorem canSet_lt {i : Nat} (h : canSet e i = true) : i < e.length := by
  unfold canSet at h
  cases q : e[i]? with
  | none => rw [q] at h; cases h
  | some z => exact (List.getElem?_eq_some_iff.mp q).1
theorem canSet_ne {i : Nat} {c : Nat} {fs : List D} (h : canSet e i = true) : e[i]? ≠ some (.own (.ins c fs)) := fun z => by
  unfold canSet at h
  rw [z] at h
  cases h
theorem RlS.setD {i : Nat} {x : D} {v : V} (s : RlS T Rs m e σ H) (h : canSet e i = true) (dn : Den T m x v) : RlS T Rs m (e.set i (.d x)) (σ.set i (some v)) H where
  len := by rw [List.length_set, List.length_set]; exact s.len
  d := fun j y q => by
    by_cases ej : i = j
    · subst ej
      rw [List.getElem?_set_self (canSet_lt h)] at q
      cases q
      exact ⟨v, List.getElem?_set_self (by rw [s.len]; exact canSet_lt h), dn⟩
    · rw [List.getElem?_set_ne ej] at q
      rw [List.getElem?_set_ne ej]
      exact s.d j y q
  o := fun j o q => by
    by_cases ej : i = j
    · subst ej
      rw [List.getElem?_set_self (canSet_lt h)] at q
      cases q
    · rw [List.getElem?_set_ne ej] at q
      rw [List.getElem?_set_ne ej]
      exact s.o j o q
  an := fun p hp => by
    obtain ⟨h1, c, fs, h2⟩ := s.an p hp
    have ne : i ≠ 0 := fun z => canSet_ne h (z ▸ h2)
    rw [List.getElem?_set_ne ne, List.getElem?_set_ne ne]
    exact ⟨h1, c, fs, h2⟩
  oi := fun j k p a b q1 q2 q3 q4 => by
    have n1 : i ≠ j := fun z => by subst z; rw [List.getElem?_set_self (canSet_lt h)] at q1; cases q1
    have n2 : i ≠ k := fun z => by subst z; rw [List.getElem?_set_self (canSet_lt h)] at q2; cases q2
    rw [List.getElem?_set_ne n1] at q1 q3
    rw [List.getElem?_set_ne n2] at q2 q4
    exact s.oi j k p a b q1 q2 q3 q4
theorem RlS.setO {i : Nat} {o : O} {v : V} (s : RlS T Rs m e σ H) (h : canSet e i = true) (dw : DenW T Rs m e σ H (.f o) v) : RlS T Rs m (e.set i (.own o)) (σ.set i (some v)) H := by
  obtain ⟨p, rfl, h1, h2, h3, h4, h5⟩ := dw
  have hi := canSet_lt h
  refine ⟨by rw [List.length_set, List.length_set]; exact s.len, fun j y q => ?_, fun j o' q => ?_, fun p' hp => ?_, fun j k p' a b q1 q2 q3 q4 => ?_⟩
  · have n1 : i ≠ j := fun z => by subst z; rw [List.getElem?_set_self hi] at q; cases q
    rw [List.getElem?_set_ne n1] at q
    rw [List.getElem?_set_ne n1]
    exact s.d j y q
  · by_cases ej : i = j
    · subst ej
      rw [List.getElem?_set_self hi] at q
      cases q
      exact ⟨p, List.getElem?_set_self (by rw [s.len]; exact hi), h1, h2, h3, h5⟩
    · rw [List.getElem?_set_ne ej] at q
      rw [List.getElem?_set_ne ej]
      exact s.o j o' q
  · obtain ⟨a1, c, fs, a2⟩ := s.an p' hp
    have ne : i ≠ 0 := fun z => canSet_ne h (z ▸ a2)
    rw [List.getElem?_set_ne ne, List.getElem?_set_ne ne]
    exact ⟨a1, c, fs, a2⟩
  · by_cases ej : i = j
    · by_cases ek : i = k
      · rw [← ej, ← ek]
      · subst ej
        rw [List.getElem?_set_self (by rw [s.len]; exact hi)] at q3
        cases q3
        rw [List.getElem?_set_ne ek] at q2 q4
        exact absurd q4 (h4 k b q2)
    · rw [List.getElem?_set_ne ej] at q1 q3
      by_cases ek : i = k
      · subst ek
        rw [List.getElem?_set_self (by rw [s.len]; exact hi)] at q4
        cases q4
        exact absurd q3 (h4 j a q1)
      · rw [List.getElem?_set_ne ek] at q2 q4
        exact s.oi j k p' a b q1 q2 q3 q4
/-! ### readings of statements -/
def OkS (T : Tb) (Rs : Hp) (Wx : WX) (m : Wd) (r : RS) (D : Ends) : Prop := match r with
  | .nx e G => ∀ σ m' H, m.le m' → RlG T Rs m' G H → RlS T Rs m' e σ H → D.nx σ H
  | .bk e G => ∀ σ m' H, m.le m' → RlG T Rs m' G H → RlS T Rs m' e σ H → D.bk σ H
  | .ct e G => ∀ σ m' H, m.le m' → RlG T Rs m' G H → RlS T Rs m' e σ H → D.ct σ H
  | .rt w e G => ∀ σ m' H v, m.le m' → RlG T Rs m' G H → RlS T Rs m' e σ H → DenW T Rs m' e σ H w v → D.rt v H
  | .ex x e G => ∀ cls d σ m' H, m.le m' → RlG T Rs m' G H → RlS T Rs m' e σ H → DenX T m' H x cls d → Wx cls d σ H
  | .no => False
abbrev EvS : Type := List S → List O → RS
def tS (T : Tb) (Wx : WX) (r : EvS) : TS := fun D σ H => ∃ Rs m G e, RlG T Rs m G H ∧ RlS T Rs m e σ H ∧ OkS T Rs Wx m (r e G) D
theorem OkS.le {r : RS} {D : Ends} {m' : Wd} (h : OkS T Rs Wx m r D) (l : m.le m') : OkS T Rs Wx m' r D := by
  cases r with
  | nx e G => exact fun σ m2 H2 l2 g s => h σ m2 H2 (l.trans l2) g s
  | bk e G => exact fun σ m2 H2 l2 g s => h σ m2 H2 (l.trans l2) g s
  | ct e G => exact fun σ m2 H2 l2 g s => h σ m2 H2 (l.trans l2) g s
  | rt w e G => exact fun σ m2 H2 v l2 g s => h σ m2 H2 v (l.trans l2) g s
  | ex x e G => exact fun c d σ m2 H2 l2 g s => h c d σ m2 H2 (l.trans l2) g s
  | no => exact h
/-- an expression ahead of a statement -/
theorem OkR.st {α : Type} {r : R α} {f : α → List S → List O → RS} {D : Ends} {k : α → Wd → List S → List O → Hp → Prop} (h : OkS T Rs Wx m (r.st f) D)
    (q : ∀ a m' e' G' H', m.le m' → RlG T Rs m' G' H' → RlS T Rs m' e' σ H' → OkS T Rs Wx m' (f a e' G') D → k a m' e' G' H') : OkR T Rs Wx m σ r k := by
  cases r with
  | ok a e G => exact fun m2 H2 l2 g s => q a m2 e G H2 l2 g s (OkS.le h l2)
  | ex x e G => exact fun c d m2 H2 l2 g s dx => h c d σ m2 H2 l2 g s dx
  | no => exact h
theorem OkS.seq {r : RS} {f : EvS} {D : Ends} (h : OkS T Rs Wx m (r.seq f) D) : OkS T Rs Wx m r { D with nx := tS T Wx f D } := by
  cases r with
  | nx e G => exact fun σ m2 H2 l2 g s => ⟨Rs, m2, G, e, g, s, OkS.le h l2⟩
  | _ => exact h
theorem s_nil : PSs X [] (tS T Wx fun e G => .nx e G) := ⟨fun pins s σ H D I h => pss_nil.run pins s σ H D I (by
  obtain ⟨Rs, m, G, e, g, s, h⟩ := h
  exact h σ m H (Wd.le.refl _) g s)⟩
theorem s_cons {st : Stmt} {rest : List Stmt} {r f : EvS} (h1 : PS X st (tS T Wx r)) (h2 : PSs X rest (tS T Wx f)) : PSs X (st :: rest) (tS T Wx fun e G => (r e G).seq f) :=
  PSs.imp (pss_cons h1 h2) fun D σ H ⟨Rs, m, G, e, g, s, h⟩ => ⟨Rs, m, G, e, g, s, OkS.seq h⟩
/-- what is not in the program: a freezing -/
theorem s_frz {rest : List Stmt} {i : Nat} {f : EvS} (h2 : PSs X rest (tS T Wx f)) : PSs X rest (tS T Wx fun e G => (match e[i]?.bind frzS with | some s => RS.nx (e.set i s) G | none => .no).seq f) := by
  refine PSs.imp h2 fun D σ H ⟨Rs, m, G, e, g, s, h⟩ => ?_
  dsimp only at h
  cases q : e[i]?.bind frzS with
  | none => rw [q] at h; exact h.elim
  | some z =>
    rw [q] at h
    cases qi : e[i]? with
    | none => rw [qi] at q; cases q
    | some y =>
      rw [qi] at q
      have q' : frzS y = some z := q
      cases y with
      | own o =>
        have no : (∀ c fs, o ≠ .ins c fs) ∧ z = .d (.obj o) := by
          cases o with
          | ins c fs => cases q'
          | _ => cases q'; exact ⟨fun _ _ z => (nomatch z), rfl⟩
        obtain ⟨no, rfl⟩ := no
        obtain ⟨p, h1, h2, h3, h4, h5⟩ := s.o i o qi
        have hi := (List.getElem?_eq_some_iff.mp qi).1
        have le := Wd.frz_le (H := H) h2
        have other : ∀ (j : Nat) (q : O) (p' : Addr), j ≠ i → e[j]? = some (.own q) → σ[j]? = some (some (.ref p')) → p' ≠ p := fun j q p' nj k1 k2 z => by
          subst z
          exact nj (s.oi j i p' q o k1 qi k2 h1)
        refine ⟨Rs, m.frz H p, G, e.set i (.d (.obj o)), g.frz h2 h3 h4, ⟨by rw [List.length_set]; exact s.len, fun j y k => ?_, fun j o' k => ?_, fun p' hp => ?_, fun j k p' a b q1 q2 q3 q4 => ?_⟩, OkS.le h le⟩
        · by_cases ej : i = j
          · subst ej
            rw [List.getElem?_set_self hi] at k
            cases k
            exact ⟨_, h1, p, rfl, h5.toF h2⟩
          · rw [List.getElem?_set_ne ej] at k
            obtain ⟨v, a, b⟩ := s.d j y k
            exact ⟨v, a, Den.mono le y v b⟩
        · have ej : i ≠ j := fun z => by subst z; rw [List.getElem?_set_self hi] at k; cases k
          rw [List.getElem?_set_ne ej] at k
          obtain ⟨p', a1, a2, a3, a4, a5⟩ := s.o j o' k
          have ne := other j o' p' (Ne.symm ej) k a1
          exact ⟨p', a1, by rw [Wd.frz_ne ne]; exact a2, a3, a4, DenO.mono le (fun _ _ z => z) o' p' a5⟩
        · obtain ⟨a1, c, fs, a2⟩ := s.an p' hp
          have ne : i ≠ 0 := fun z => by subst z; rw [qi] at a2; cases a2; exact no _ _ rfl
          exact ⟨a1, c, fs, by rw [List.getElem?_set_ne ne]; exact a2⟩
        · have n1 : i ≠ j := fun z => by subst z; rw [List.getElem?_set_self hi] at q1; cases q1
          have n2 : i ≠ k := fun z => by subst z; rw [List.getElem?_set_self hi] at q2; cases q2
          rw [List.getElem?_set_ne n1] at q1
          rw [List.getElem?_set_ne n2] at q2
          exact s.oi j k p' a b q1 q2 q3 q4
      | _ => cases q'
/-! ### small statements -/
theorem s_pass {pos : Pos} : PS X (.Pass pos) (tS T Wx fun e G => .nx e G) := PS.imp ps_pass fun D σ H ⟨Rs, m, G, e, g, s, h⟩ => h σ m H (Wd.le.refl _) g s
theorem s_brk {pos : Pos} : PS X (.Break pos) (tS T Wx fun e G => .bk e G) := PS.imp ps_break fun D σ H ⟨Rs, m, G, e, g, s, h⟩ => h σ m H (Wd.le.refl _) g s
theorem s_cnt {pos : Pos} : PS X (.Continue pos) (tS T Wx fun e G => .ct e G) := PS.imp ps_continue fun D σ H ⟨Rs, m, G, e, g, s, h⟩ => h σ m H (Wd.le.refl _) g s
theorem s_ex {a : Expr} {pos : Pos} {ra : Ev} (ha : PE X a (tE T Wx ra)) (hs : swapsWith a none pos.line X.env = pure false) : PS X (.Expr a pos) (tS T Wx fun e G => (ra e G).st fun _ e G => .nx e G) :=
  PS.imp (ps_expr ha hs) fun D σ H ⟨Rs, m, G, e, g, s, h⟩ => ⟨Rs, m, G, e, g, s, OkR.st h fun w m1 e1 G1 H1 l1 g1 s1 h1 v dw => h1 σ m1 H1 (Wd.le.refl _) g1 s1⟩
theorem s_ret {a : Expr} {pos : Pos} {ra : Ev} (ha : PE X a (tE T Wx ra)) : PS X (.Return (some a) pos) (tS T Wx fun e G => (ra e G).st fun w e G => (match w with
    | .b _ => .no
    | .k _ => .no
    | w => .rt w e G)) :=
  PS.imp (ps_ret ha) fun D σ H ⟨Rs, m, G, e, g, s, h⟩ => ⟨Rs, m, G, e, g, s, OkR.st h fun w m1 e1 G1 H1 l1 g1 s1 h1 v dw => by
    cases w with
    | d x => exact h1 σ m1 H1 v (Wd.le.refl _) g1 s1 dw
    | f x => exact h1 σ m1 H1 v (Wd.le.refl _) g1 s1 dw
    | _ => exact h1.elim⟩
theorem s_retN {pos : Pos} : PS X (.Return none pos) (tS T Wx fun e G => .rt (.d .non) e G) := PS.imp ps_retN fun D σ H ⟨Rs, m, G, e, g, s, h⟩ => h σ m H .non (Wd.le.refl _) g s rfl
/-- a slot's own object is handed over -/
theorem s_retO {i : Nat} {x : Str} {p pos : Pos} (hN : X.N[i]? = some x) (hv : Vis X.env.scope x) (hd : (x == ("__debug__" : Str)) = false) (hcd : (x == ("__classdict__" : Str)) = false) :
    PS X (.Return (some (.Name x p)) pos) (tS T Wx fun e G => (match (e[i]? : Option S) with | some (S.own o) => if canSet e i then .rt (.f o) (e.set i .un) G else .no | _ => .no)) := by
  refine PS.imp (ps_ret (pe_var hN hv hd hcd)) fun D σ H ⟨Rs, m, G, e, g, s, h⟩ => ?_
  dsimp only at h
  cases q : e[i]? with
  | none => rw [q] at h; exact h.elim
  | some z =>
    rw [q] at h
    cases z with
    | own o =>
      dsimp only at h
      cases hc : canSet e i with
      | false => rw [hc] at h; exact h.elim
      | true =>
        rw [hc] at h
        obtain ⟨p, h1, h2, h3, h4, h5⟩ := s.o i o q
        have hi := (List.getElem?_eq_some_iff.mp q).1
        refine ⟨_, h1, ?_⟩
        refine h σ m H _ (Wd.le.refl _) g ⟨by rw [List.length_set]; exact s.len, fun j y k => ?_, fun j o' k => ?_, fun p' hp => ?_, fun j k p' a b q1 q2 q3 q4 => ?_⟩ ⟨p, rfl, h2, h3, h4, fun j o' k y => ?_, h5⟩
        · have n1 : i ≠ j := fun z => by subst z; rw [List.getElem?_set_self hi] at k; cases k
          rw [List.getElem?_set_ne n1] at k
          exact s.d j y k
        · have n1 : i ≠ j := fun z => by subst z; rw [List.getElem?_set_self hi] at k; cases k
          rw [List.getElem?_set_ne n1] at k
          exact s.o j o' k
        · obtain ⟨a1, c, fs, a2⟩ := s.an p' hp
          have ne : i ≠ 0 := fun z => canSet_ne hc (z ▸ a2)
          rw [List.getElem?_set_ne ne]
          exact ⟨a1, c, fs, a2⟩
        · have n1 : i ≠ j := fun z => by subst z; rw [List.getElem?_set_self hi] at q1; cases q1
          have n2 : i ≠ k := fun z => by subst z; rw [List.getElem?_set_self hi] at q2; cases q2
          rw [List.getElem?_set_ne n1] at q1
          rw [List.getElem?_set_ne n2] at q2
          exact s.oi j k p' a b q1 q2 q3 q4
        · have n1 : i ≠ j := fun z => by subst z; rw [List.getElem?_set_self hi] at k; cases k
          rw [List.getElem?_set_ne n1] at k
          exact n1 (s.oi i j p o o' q k h1 y)
    | _ => exact h.elim
theorem s_if {c : Expr} {a b : List Stmt} {pos : Pos} {rc : List S → List O → R Bool} {fa fb : EvS} (hc : PT X c (tBo T Wx rc)) (ha : PSs X a (tS T Wx fa)) (hb : PSs X b (tS T Wx fb)) :
    PS X (.If c a b pos) (tS T Wx fun e G => (rc e G).st fun k e G => if k then fa e G else fb e G) := by
  refine PS.imp (ps_if hc ha hb) fun D σ H ⟨Rs, m, G, e, g, s, h⟩ => ⟨Rs, m, G, e, g, s, OkR.st h fun k m1 e1 G1 H1 l1 g1 s1 h1 => ?_⟩
  cases k with
  | true => exact iteT ⟨Rs, m1, G1, e1, g1, s1, h1⟩
  | false => exact iteF ⟨Rs, m1, G1, e1, g1, s1, h1⟩
theorem pt_of_pw {c : Expr} {t : TT} (h : PW X c t) : PT X c t := ⟨fun pins s σ H Q I q => h.run _ pins s σ H Q I q⟩
/-! ### targets -/
def Same (σ σ' : L2.St) (vs : List Nat) : Prop := σ'.length = σ.length ∧ ∀ i, i ∉ vs → σ'[i]? = σ[i]?
def tG (T : Tb) (tg : Tg) : TG := fun v σ H Q => ∃ Rs m G e x e', RlG T Rs m G H ∧ RlS T Rs m e σ H ∧ Den T m x v ∧ setTg tg x e = some e' ∧ ∀ σ', RlS T Rs m e' σ' H → Same σ σ' tg.slots → Q σ' H
def tGs (T : Tb) (tg : Tgs) : TGs := fun vs σ H Q => ∃ Rs m G e xs e', RlG T Rs m G H ∧ RlS T Rs m e σ H ∧ DenL T m xs vs ∧ setTgs tg xs e = some e' ∧ ∀ σ', RlS T Rs m e' σ' H → Same σ σ' tg.slots → Q σ' H
theorem PG.imp {ex : Expr} {t t' : TG} (h : PG X ex t) (i : ∀ v σ H Q, t' v σ H Q → t v σ H Q) : PG X ex t' := ⟨fun pins s σ H v u Q I r q => h.run pins s σ H v u Q I r (i v σ H Q q)⟩
theorem PGs.imp {ex : List Expr} {t t' : TGs} (h : PGs X ex t) (i : ∀ v σ H Q, t' v σ H Q → t v σ H Q) : PGs X ex t' := ⟨fun pins s σ H v u Q I r q => h.run pins s σ H v u Q I r (i v σ H Q q)⟩
theorem g_nm {i : Nat} {x : Str} {pos : Pos} (hN : X.N.Nodup) (hi : X.N[i]? = some x) (hx : Loc X.env.scope x) (hf : X.fn x = true ∨ X.env.scope.names.lookup x = some .local) : PG X (.Name x pos) (tG T (.nm i)) := by
  refine PG.imp (pg_name hN hi hx hf) fun v σ H Q ⟨Rs, m, G, e, x, e', g, s, dn, hs, q⟩ => ?_
  have hs' : (if canSet e i then some (e.set i (.d x)) else none) = some e' := hs
  cases hc : canSet e i with
  | false => rw [hc] at hs'; cases hs'
  | true =>
    rw [hc] at hs'
    cases hs'
    exact q _ (s.setD hc dn) ⟨by rw [List.length_set], fun j hj => by
      have ne : i ≠ j := fun z => hj (by rw [z]; exact List.mem_singleton.mpr rfl)
      rw [List.getElem?_set_ne ne]⟩
theorem g_nil : PGs X [] (tGs T .nil) := by
  refine PGs.imp pgs_nil fun vs σ H Q ⟨Rs, m, G, e, xs, e', g, s, dl, hs, q⟩ => ?_
  cases xs with
  | nil =>
    cases hs
    have ev : vs = [] := dl
    exact ⟨ev, q σ s ⟨rfl, fun _ _ => rfl⟩⟩
  | cons x xs => cases hs
theorem g_cons {ex : Expr} {es : List Expr} {a : Tg} {r : Tgs} (h1 : PG X ex (tG T a)) (h2 : PGs X es (tGs T r)) (hs : (assignEach (ex :: es) X.env).map (·.2) = assign ex X.env :: (assignEach es X.env).map (·.2)) : PGs X (ex :: es) (tGs T (.cons a r)) := by
  refine PGs.imp (pgs_cons h1 h2 hs) fun vs σ H Q ⟨Rs, m, G, e, xs, e', g, s, dl, hs, q⟩ => ?_
  cases xs with
  | nil => cases hs
  | cons x xs =>
    have hs' : (setTg a x e).bind (fun e' => setTgs r xs e') = some e' := hs
    cases q1 : setTg a x e with
    | none => rw [q1] at hs'; cases hs'
    | some e1 =>
      rw [q1] at hs'
      obtain ⟨v, vs', rfl, dn, dl⟩ := dl
      refine ⟨v, vs', rfl, Rs, m, G, e, x, e1, g, s, dn, q1, fun σ1 s1 sm => ⟨Rs, m, G, e1, xs, e', g, s1, dl, hs', fun σ2 s2 sm2 => q σ2 s2 ⟨sm2.1.trans sm.1, fun i hi => ?_⟩⟩⟩
      have hi' : i ∉ a.slots ++ r.slots := hi
      rw [sm2.2 i (fun z => hi' (List.mem_append_right _ z)), sm.2 i (fun z => hi' (List.mem_append_left _ z))]
theorem g_tp {es : List Expr} {k n : Nat} {pos : Pos} {ts : Tgs} (hK : X.K = T.K) (hc : X.calm = true) (h : PGs X es (tGs T ts)) (hn : (assignEach es X.env).length = n) (hl : ∀ xs e e', setTgs ts xs e = some e' → xs.length = n) (hst : (assignEach es X.env).findIdx? (·.1) = none) : PG X (.Tuple es k pos) (tG T (.tp ts)) := by
  refine PG.imp (pg_tup hc h hn hst) fun v σ H Q ⟨Rs, m, G, e, x, e', g, s, dn, hs, q⟩ => ?_
  cases x with
  | tup xs =>
    have hs' : setTgs ts xs e = some e' := hs
    obtain ⟨p, ys, rfl, hf, dl⟩ := dn
    exact ⟨p, ys, rfl, .inl (.inl (g.fz _ _ hf)), by rw [← dl.length]; exact hl _ _ _ hs', Rs, m, G, e, xs, e', g, s, dl, hs', q⟩
  | _ => cases hs
def Tgs.len : Tgs → Nat
  | .nil => 0
  | .cons _ r => r.len + 1
theorem setTgs_len : ∀ (ts : Tgs) (xs : List D) (e e' : List S), setTgs ts xs e = some e' → xs.length = ts.len
  | .nil, [], _, _, _ => rfl
  | .nil, _ :: _, _, _, h => by cases h
  | .cons a r, [], _, _, h => by cases h
  | .cons a r, x :: xs, e, e', h => by
    have h' : (setTg a x e).bind (fun e' => setTgs r xs e') = some e' := h
    cases q1 : setTg a x e with
    | none => rw [q1] at h'; cases h'
    | some e1 =>
      rw [q1] at h'
      rw [List.length_cons, setTgs_len r xs e1 e' h'] <;> rfl
/-! ### assignments -/
theorem s_asg {tg ex : Expr} {pos : Pos} {t : Tg} {ra : Ev} (ha : PE X ex (tE T Wx ra)) (hg : PG X tg (tG T t)) (hs : swapsWithSole [tg] ex pos.line X.env = pure false) (hw : swappedStores [tg] ex X.env = pure none) (h1 : (assignEach [tg] X.env).map (·.2) = [assign tg X.env]) :
    PS X (.Assign [tg] ex pos) (tS T Wx fun e G => (ra e G).toD.st fun x e G => (match setTg t x e with | some e => .nx e G | none => .no)) := by
  refine PS.imp (ps_asg (PE.imp ha fun _ _ _ => tE_of_tD) hg hs hw h1) fun D σ H ⟨Rs, m, G, e, g, s, h⟩ => ⟨Rs, m, G, e, g, s, OkR.st h fun x m1 e1 G1 H1 l1 g1 s1 h1 v dn => ?_⟩
  cases q : setTg t x e1 with
  | none => rw [q] at h1; exact h1.elim
  | some e2 =>
    rw [q] at h1
    exact ⟨Rs, m1, G1, e1, x, e2, g1, s1, dn, q, fun σ' s' _ => h1 σ' m1 H1 (Wd.le.refl _) g1 s'⟩
theorem s_set {i : Nat} {x : Str} {ex : Expr} {p pos : Pos} {ra : Ev} (hN : X.N.Nodup) (hi : X.N[i]? = some x) (hx : Loc X.env.scope x) (ha : PE X ex (tE T Wx ra)) (hs : swapsWith ex (some (.Name x p)) pos.line X.env = pure false) (hf : X.fn x = true ∨ X.env.scope.names.lookup x = some .local) :
    PS X (.Assign [.Name x p] ex pos) (tS T Wx fun e G => (ra e G).toD.st fun x e G => (match setTg (.nm i) x e with | some e => .nx e G | none => .no)) := by
  refine PS.imp (ps_set hN hi hx (PE.imp ha fun _ _ _ => tE_of_tD) hs hf) fun D σ H ⟨Rs, m, G, e, g, s, h⟩ => ⟨Rs, m, G, e, g, s, OkR.st h fun x m1 e1 G1 H1 l1 g1 s1 h1 v dn => ?_⟩
  cases hc : canSet e1 i with
  | false =>
    have e0 : setTg (.nm i) x e1 = none := by show (if canSet e1 i = true then some (e1.set i (.d x)) else none) = none; rw [hc]; rfl
    rw [e0] at h1
    exact h1.elim
  | true =>
    have e0 : setTg (.nm i) x e1 = some (e1.set i (.d x)) := by show (if canSet e1 i = true then some (e1.set i (.d x)) else none) = _; rw [hc]; rfl
    rw [e0] at h1
    exact h1 _ m1 H1 (Wd.le.refl _) g1 (s1.setD hc dn)
theorem s_setO {i : Nat} {x : Str} {ex : Expr} {p pos : Pos} {ra : Ev} (hN : X.N.Nodup) (hi : X.N[i]? = some x) (hx : Loc X.env.scope x) (ha : PE X ex (tE T Wx ra)) (hs : swapsWith ex (some (.Name x p)) pos.line X.env = pure false) (hf : X.fn x = true ∨ X.env.scope.names.lookup x = some .local) :
    PS X (.Assign [.Name x p] ex pos) (tS T Wx fun e G => (ra e G).st fun w e G => (match ownW w with | some s => stD i s e G | none => .no)) := by
  refine PS.imp (ps_set hN hi hx ha hs hf) fun D σ H ⟨Rs, m, G, e, g, s, h⟩ => ⟨Rs, m, G, e, g, s, OkR.st h fun w m1 e1 G1 H1 l1 g1 s1 h1 v dw => ?_⟩
  cases w with
  | f o =>
    have h1' : OkS T Rs Wx m1 (if canSet e1 i then .nx (e1.set i (.own o)) G1 else .no) D := h1
    cases hc : canSet e1 i with
    | false => rw [hc] at h1'; exact h1'.elim
    | true =>
      rw [hc] at h1'
      exact h1' _ m1 H1 (Wd.le.refl _) g1 (s1.setO hc dw)
  | _ => exact h1.elim
/-- a, b = x, y -/
theorem s_par {i j : Nat} {x y : Str} {a b : Expr} {px py pt pos : Pos} {kt k2 pt2} {ra rb : Ev} (hc : X.calm = true) (hN : X.N.Nodup) (hi : X.N[i]? = some x) (hj : X.N[j]? = some y) (hij : i ≠ j)
    (hx : X.env.scope.names.lookup x = some .local) (hy : X.env.scope.names.lookup y = some .local) (ha : PE X a (tE T Wx ra)) (hb : PE X b (tE T Wx rb)) (h1 : starEach [a, b] X.env = (false, eval a X.env) :: starEach [b] X.env) (h2 : starEach [b] X.env = (false, eval b X.env) :: starEach [] X.env)
    (hw : swappedStores [.Tuple [.Name x px, .Name y py] kt pt] (.Tuple [a, b] k2 pt2) X.env = pure (some [x, y]))
    (hs : swapsWithSole [.Tuple [.Name x px, .Name y py] kt pt] (.Tuple [a, b] k2 pt2) pos.line X.env = pure false) :
    PS X (.Assign [.Tuple [.Name x px, .Name y py] kt pt] (.Tuple [a, b] k2 pt2) pos) (tS T Wx fun e G => (ra e G).toD.st fun x e G => (rb e G).toD.st fun y e G => if canSet e i && canSet (e.set i (.d x)) j then .nx ((e.set i (.d x)).set j (.d y)) G else .no) := by
  refine PS.imp (ps_par hc hN hi hj hij hx hy (pa_cons (PE.imp ha fun _ _ _ => tE_of_tD) (pa_cons (PE.imp hb fun _ _ _ => tE_of_tD) pa_nil h2) h1) hw hs) fun D σ H ⟨Rs, m, G, e, g, s, h⟩ => ⟨Rs, m, G, e, g, s, OkR.st h fun x m1 e1 G1 H1 l1 g1 s1 h1 v dn => ⟨Rs, m1, G1, e1, g1, s1, OkR.st h1 fun y m2 e2 G2 H2 l2 g2 s2 h2 u dn2 => ?_⟩⟩
  refine ⟨v, u, rfl, ?_⟩
  cases q : (canSet e2 i && canSet (e2.set i (.d x)) j) with
  | false => rw [q] at h2; exact h2.elim
  | true =>
    rw [q] at h2
    obtain ⟨c1, c2⟩ := Bool.and_eq_true_iff.mp q
    exact h2 _ m2 H2 (Wd.le.refl _) g2 ((s2.setD c1 (Den.mono l2 x v dn)).setD c2 dn2)
end
end Mn
/-! Zq1: small steps, each with what follows it; what a strict zip draws. -/
namespace Zq
open PySem PySem.Spec PyProof.Rows L2
section
variable {P : Program} {w : World} {A : Around} {E : Value → Shared → Prop} {s : Shared} {β : Type} {Q : β → Shared → Prop}
theorem rd {a : Addr} {o : Obj} {vs : Array Value} {k : Nat} (v : Value) {f : Value → Sem β} (h : s.heap.get? a = some o) (d : o.data = .fields vs) (e : vs[k]? = some v) (q : wpAny (model P w) A (f v) Q E s) : wpAny (model P w) A (field (.ref a) k >>= f) Q E s := wpAny_bind (wpAny_field h d e q)
theorem sq {a : Addr} {o : Obj} {xs : Array Value} {n : Nat} {f : Option (Array Value) → Sem β} (h : s.heap.get? a = some o) (d : o.data = .seq xs n) (q : wpAny (model P w) A (f (some xs)) Q E s) : wpAny (model P w) A (seqItems? (.ref a) >>= f) Q E s := wpAny_bind (wpAny_seqItems h d q)
theorem wr {a : Addr} {o : Obj} {vs : Array Value} {k : Nat} {v : Value} {f : Unit → Sem β} (h : s.heap.get? a = some o) (d : o.data = .fields vs) (l : k < vs.size) (q : ∀ h', h'.get? a = some { o with data := .fields (vs.setIfInBounds k v) } → Heap.SameBut a s.heap h' → wpAny (model P w) A (f ()) Q E { s with heap := h' }) : wpAny (model P w) A (setField (.ref a) k v >>= f) Q E s := by
  refine wpAny_bind (wpAny_setField h d l (q _ ?_ (Heap.SameBut.update ..)))
  rw [Heap.get?_update_self _ h (Obj.isFreed_of_fields (Obj.data_mapFields d _))]
  cases o
  cases d
  rfl
theorem us {a : Addr} {o : Obj} {xs : Array Value} {n : Nat} {g : Array Value → Array Value} {f : Unit → Sem β} (h : s.heap.get? a = some o) (d : o.data = .seq xs n) (y : xs.size ≤ sizeLine) (z : (g xs).size = xs.size) (q : ∀ h', h'.get? a = some { o with data := .seq (g xs) n } → Heap.SameBut a s.heap h' → wpAny (model P w) A (f ()) Q E { s with heap := h' }) : wpAny (model P w) A (updateSeq a g >>= f) Q E s := by
  refine wpAny_bind (wpAny_updateSeq h d (q _ ?_ (Heap.SameBut.update ..)) y (z ▸ Nat.le_succ_of_le y))
  cases o
  cases d
  rw [Heap.get?_update_self _ h rfl]
  simp [Obj.mapSeq, z]
/-- an iterator that has one more -/
theorem more {it : Addr} {fp : List Addr} {n i : Nat} {Pv : Nat → Value → Prop} {St : Nat → Heap → Prop} {f : Option Value → Sem β} (D : Draws P w A it fp n Pv St) (lt : i < n) (st : St i s.heap) (q : ∀ x h' tk, Pv i x → St (i + 1) h' → Heap.SameBut it s.heap h' → wpAny (model P w) A (f (some x)) Q E { s with heap := h', toks := tk }) : wpAny (model P w) A (Builtin.SmallTypes.nextOrEnd (.ref it) >>= f) Q E s := by
  refine wpAny_bind ?_
  unfold Builtin.SmallTypes.nextOrEnd
  exact wpAny_bind (wpAny_attempt (D.item i _ _ _ lt st fun x h' tk p s' b => wpAny_pure (q x h' tk p s' b)))
/-- one that has none -/
theorem none_left {it : Addr} {fp : List Addr} {n : Nat} {Pv : Nat → Value → Prop} {St : Nat → Heap → Prop} {f : Option Value → Sem β} (D : Draws P w A it fp n Pv St) (st : St n s.heap) (q : ∀ h', Heap.ExtBut it s.heap h' → wpAny (model P w) A (f none) Q E { s with heap := h' }) : wpAny (model P w) A (Builtin.SmallTypes.nextOrEnd (.ref it) >>= f) Q E s := by
  refine wpAny_bind ?_
  unfold Builtin.SmallTypes.nextOrEnd
  refine wpAny_bind (wpAny_attempt (D.done _ _ _ st fun h' e x c => ?_))
  obtain ⟨o, c1, c2⟩ := c
  exact wpAny_bind (wpAny_isInstance (T := "StopIteration") (b := true) ⟨o, c1, c2⟩ isSubtype_stop (wpAny_pure (q h' x)))
theorem guard {α : Type} {m : Sem α} {g : Value → Sem Unit} {f : α → Sem β} (h : ∀ E', wpAny (model P w) A (m >>= pure) (fun a s' => wpAny (model P w) A (f a) Q E s') E' s) : wpAny (model P w) A (m.onRaise g >>= f) Q E s := by
  refine wpAny_bind (wpAny_onRaise ?_)
  have := h fun e s' => wpAny (model P w) A (g e) (fun _ s'' => E e s'') E s'
  rwa [bind_pure] at this
/-- the end is told by a raise -/
theorem told {α : Type} {Q : α → Shared → Prop} (hh : A.handled = none) (q : ∀ h' e, (∃ o, h'.get? e = some o ∧ o.cls = .type "StopIteration") → (∀ c o, s.heap.get? c = some o → h'.get? c = some o) → E (.ref e) { s with heap := h' }) : wpAny (model P w) A (Builtin.SmallTypes.stopIteration : Sem α) Q E s := by
  unfold Builtin.SmallTypes.stopIteration newExc
  refine wpAny_bind (wpAny_bind (wpAny_newTuple ?_ (Nat.zero_le _)))
  refine wpAny_bind (wpAny_of_eq (a := Value.none) (by simp only [firstArgMember]; rfl) ?_)
  refine wpAny_newObj_type (wpAny_raiseNew_none hh (q _ _ ⟨_, Heap.get?_push_size _ rfl, rfl⟩ fun c o x => Heap.get?_push_of_some _ (Heap.get?_push_of_some _ x))) (by size_fits)
end
end Zq
/-! Zq2: a strict zip over two iterators goes on, and ends. -/
namespace Zq
open PySem PySem.Spec PyProof.Rows L2
abbrev ZR (h : Heap) (z : Addr) (f0 : Value) (TI TO : Addr) : Prop := h.get? z = some { cls := .type "zip", data := .fields #[f0, .bool false, .bool true, .ref TI, .ref TO] }
section
variable {P : Program} {w : World} {A : Around} {E : Value → Shared → Prop} {s : Shared} {z TI TO i1 i2 : Addr} {fp1 fp2 : List Addr} {n1 n2 i : Nat} {P1 P2 : Nat → Value → Prop} {St1 St2 : Nat → Heap → Prop} {a1 a2 : Value}
theorem zip_more {Q : Fin → Shared → Prop} (S : ZipSep2 z TI TO i1 i2 fp1 fp2) (D1 : Draws P w A i1 fp1 n1 P1 St1) (D2 : Draws P w A i2 fp2 n2 P2 St2) (hz : ZR s.heap z .none TI TO) (hI : IsTupOf2 s.heap TI (.ref i1) (.ref i2)) (hO : IsTupOf2 s.heap TO a1 a2) (c1 : St1 i s.heap) (c2 : St2 i s.heap) (l1 : i < n1) (l2 : i < n2)
    (q : ∀ x1 x2 h' tk N, P1 i x1 → P2 i x2 → N = s.heap.objs.size → ZR h' z (rawInt N) TI TO → IsTupOf2 h' TO x1 x2 → St1 (i + 1) h' → St2 (i + 1) h' → IsTupOf2 h' N x1 x2 → h'.objs.size = N + 1 → (∀ c o, c ∉ [z, TO, i1, i2] → s.heap.get? c = some o → h'.get? c = some o) → Q (.done (.ret (.ref N))) { s with heap := h', toks := tk }) :
    wpAny (model P w) A (Builtin.«zip.__next__» ⟨[.ref z], []⟩) Q E s := by
  obtain ⟨hp, gn, dr, tk, sy⟩ := s
  refine rd (.bool true) hz rfl rfl (rd (.ref TI) hz rfl rfl (sq hI rfl ?_))
  show wpAny _ _ (Builtin.SmallTypes.ownedTupleIsFree _ >>= _) _ _ _
  refine wpAny_bind (rd .none hz rfl rfl (wpAny_pure (wpAny_bind (wpAny_rule (rd (.ref TO) hz rfl rfl (wr hz rfl (by simp) fun ha za sa => ?_))))))
  refine wpAny_bind ?_
  show wpAny _ _ (((Builtin.SmallTypes.nextOrEnd (.ref i1)).onRaise _ >>= _) >>= _) _ _ _
  refine wpAny_bind (guard fun E1 => more D1 l1 (D1.over c1 sa S.zf1) fun x1 hb tb p1 e1 sb => wpAny_pure ?_)
  show wpAny _ _ _ _ _ ⟨hb, gn, dr, tb, sy⟩
  have ob : IsTupOf2 hb TO a1 a2 := (sb.2 TO S.Ti1).trans ((sa.2 TO S.TOz).trans hO)
  refine sq ob rfl (us ob rfl (by size_fits) (by simp) fun hc oc sc => wpAny_bind (wpAny_letGo (wpAny_pure ?_)))
  show wpAny _ _ ((((Builtin.SmallTypes.nextOrEnd (.ref i2)).onRaise _ >>= _) >>= _)) _ _ _
  refine wpAny_bind (guard fun E2 => more D2 l2 (D2.over (D2.over (D2.over c2 sa S.zf2) sb S.sep1_2) sc S.Tf2) fun x2 hd td p2 e2 sd => wpAny_pure ?_)
  show wpAny _ _ _ _ _ ⟨hd, gn, dr, td, sy⟩
  have od : IsTupOf2 hd TO x1 a2 := (sd.2 TO S.Ti2).trans oc
  refine sq od rfl (us od rfl (by size_fits) (by simp) fun he oe se => wpAny_bind (wpAny_letGo (wpAny_pure (wpAny_pure ?_))))
  show wpAny _ _ (seqItems? (.ref TO) >>= _) _ _ ⟨he, gn, dr, td, sy⟩
  refine sq oe rfl ?_
  show wpAny _ _ (newTuple [x1, x2] >>= _) _ _ _
  refine wpAny_bind (wpAny_newTuple ?_ (show 2 ≤ sizeLine by decide))
  dsimp only
  have sz : he.objs.size = hp.objs.size := by rw [se.1, sd.1, sc.1, sb.1, sa.1]
  have zz : ∀ o, ha.get? z = some o → he.get? z = some o := fun o x => (se.2 z S.TOz.symm).trans ((sd.2 z S.zi2).trans ((sc.2 z S.TOz.symm).trans ((sb.2 z S.zi1).trans x)))
  have zl : z < he.objs.size := Heap.lt_size (zz _ za)
  have ol : TO < he.objs.size := Heap.lt_size oe
  show wpAny _ _ ((setField (.ref z) 0 (rawInt he.objs.size) >>= fun _ => setField (.ref z) 1 (.bool false)) >>= _) _ _ _
  have zp := Heap.get?_push_of_some { cls := .type "tuple", data := .seq #[x1, x2] } (zz _ za)
  refine wpAny_bind (wr zp rfl (by simp) fun hf zf sf => ?_)
  rw [← bind_pure (setField (.ref z) 1 (.bool false))]
  refine wr zf rfl (by simp) fun hg zg sg => wpAny_pure (wpAny_pure ?_)
  have nz : he.objs.size ≠ z := Nat.ne_of_gt zl
  have up : ∀ c o, c ≠ z → he.get? c = some o → hg.get? c = some o := fun c o n x => (sg.2 c n).trans ((sf.2 c n).trans (Heap.get?_push_of_some _ x))
  refine q x1 x2 hg td he.objs.size p1 p2 sz zg (up _ _ S.TOz oe) (D1.frame _ _ _ (D1.over (D1.over (D1.over e1 sc S.Tf1) sd S.sep2_1) se S.Tf1) fun b hb' o x => up b o (fun k => S.zf1 (k ▸ hb')) x) (D2.frame _ _ _ (D2.over e2 se S.Tf2) fun b hb' o x => up b o (fun k => S.zf2 (k ▸ hb')) x) ((sg.2 _ nz).trans ((sf.2 _ nz).trans (Heap.get?_push_size _ rfl))) ?_ fun c o hc x => ?_
  · rw [sg.1, sf.1]
    exact Array.size_push ..
  · simp only [List.mem_cons, List.not_mem_nil, or_false, not_or] at hc
    obtain ⟨k1, k2, k3, k4⟩ := hc
    exact up c o k1 ((se.2 c k2).trans ((sd.2 c k4).trans ((sc.2 c k2).trans ((sb.2 c k3).trans ((sa.2 c k1).trans x)))))
theorem zip_done {Q : Fin → Shared → Prop} (hh : A.handled = none) (S : ZipSep2 z TI TO i1 i2 fp1 fp2) (D1 : Draws P w A i1 fp1 n1 P1 St1) (D2 : Draws P w A i2 fp2 n2 P2 St2) (hz : ZR s.heap z .none TI TO) (hI : IsTupOf2 s.heap TI (.ref i1) (.ref i2)) (hO : IsTupOf2 s.heap TO a1 a2) (c1 : St1 n1 s.heap) (c2 : St2 n2 s.heap)
    (q : ∀ h' e, (∃ o, h'.get? e = some o ∧ o.cls = .type "StopIteration") → (∀ c o, c ∉ [z, i1, i2] → s.heap.get? c = some o → h'.get? c = some o) → E (.ref e) { s with heap := h' }) :
    wpAny (model P w) A (Builtin.«zip.__next__» ⟨[.ref z], []⟩) Q E s := by
  obtain ⟨hp, gn, dr, tk, sy⟩ := s
  refine rd (.bool true) hz rfl rfl (rd (.ref TI) hz rfl rfl (sq hI rfl ?_))
  show wpAny _ _ (Builtin.SmallTypes.ownedTupleIsFree _ >>= _) _ _ _
  refine wpAny_bind (rd .none hz rfl rfl (wpAny_pure (wpAny_bind (wpAny_rule (rd (.ref TO) hz rfl rfl (wr hz rfl (by simp) fun ha za sa => ?_))))))
  refine wpAny_bind ?_
  show wpAny _ _ (((Builtin.SmallTypes.nextOrEnd (.ref i1)).onRaise _ >>= _) >>= _) _ _ _
  refine wpAny_bind (guard fun E1 => none_left D1 (D1.over c1 sa S.zf1) fun hb sb => wpAny_pure ?_)
  show wpAny _ _ (setField (.ref z) 0 .none >>= _) _ _ ⟨hb, gn, dr, tk, sy⟩
  refine wr (sb z _ S.zi1 za) rfl (by simp) fun hc zc sc => ?_
  refine wpAny_bind ?_
  show wpAny _ _ (((Builtin.SmallTypes.nextOrEnd (.ref i2) >>= _) >>= _) >>= _) _ _ ⟨hc, gn, dr, tk, sy⟩
  refine wpAny_bind (wpAny_bind (none_left D2 ?_ fun hd sd => wpAny_pure (wpAny_pure (wpAny_bind (wpAny_rule (told hh fun h' e x k => q h' e x fun c o hc' y => ?_))))))
  · exact D2.over (D2.frame _ _ _ (D2.over c2 sa S.zf2) fun b hb' o x => sb b o (fun k => S.sep1_2 (k ▸ hb')) x) sc S.zf2
  · simp only [List.mem_cons, List.not_mem_nil, or_false, not_or] at hc'
    obtain ⟨k1, k2, k3⟩ := hc'
    exact k c o (sd c o k3 ((sc.2 c k1).trans (sb c o k2 ((sa.2 c k1).trans y))))
end
end Zq
/-! Zq3: a strict zip walks. -/
namespace Zq
open PySem PySem.Spec PyProof.Rows L2
section
variable {P : Program} {w : World} {A : Around} {E : Value → Shared → Prop} {s : Shared} {z TI TO i1 i2 : Addr} {fp1 fp2 : List Addr} {n i : Nat} {P1 P2 : Nat → Value → Prop} {St1 St2 : Nat → Heap → Prop} {f0 : Value}
theorem by_next {Q : Option Value → Shared → Prop} (hz : ZR s.heap z f0 TI TO) (h : wpAny (model P w) A.in1 (Builtin.«zip.__next__» ⟨[.ref z], []⟩) (fun f s' => ∃ v, f = .done (.ret v) ∧ Q (some v) s') (fun e s' => (∃ a o, e = .ref a ∧ s'.heap.get? a = some o ∧ o.cls = .type "StopIteration") ∧ Q none s') s) : wpAny (model P w) A (pyNext (.ref z)) Q E s := by
  have ty : s.TypeIs (.ref z) "zip" := ⟨_, hz, rfl⟩
  have c := wpAny_call_entry (A := A) F.slot_zip_next ty F.entry_zip_next h (F.args_zip_next_1 _)
  unfold pyNext
  refine wpAny_bind (wpAny_attempt (wpAny_callSpecial?_slot ty F.slot_zip_next (wpAny_mono c (fun v s' q => wpAny_pure q) fun e s' q => ?_)))
  obtain ⟨⟨a, o, rfl, q1, q2⟩, q⟩ := q
  exact wpAny_bind (wpAny_isInstance (T := "StopIteration") (b := true) ⟨o, q1, q2⟩ isSubtype_stop (wpAny_pure q))
/-- the tuple handed out is let go of -/
theorem lets_go {T : Addr} {elts : List Expr} {k : Nat} {pos : Pos} {Q : Unit → Shared → Prop} (hz : ZR s.heap z (rawInt T) TI TO) (q : ∀ h', ZR h' z .none TI TO → Heap.SameBut z s.heap h' → Q () { s with heap := h' }) : wpAny (model P w) A (letOwnedTupleGo (.Tuple elts k pos) (.ref z) (.ref T)) Q E s := by
  unfold letOwnedTupleGo
  refine wpAny_bind (wpAny_load (M := model P w) (A := A) (E := E) hz ?_)
  dsimp only
  split
  · show wpAny _ _ (rule _ >>= fun _ => setField (.ref z) 0 .none) _ _ _
    rw [← bind_pure (setField (.ref z) 0 .none)]
    exact wpAny_bind (wpAny_rule (wr hz rfl (by simp) fun h' k sb => wpAny_pure (q h' k sb)))
  · next c => exact absurd (by simp) c
theorem itself {Q : Value → Shared → Prop} (hz : ZR s.heap z f0 TI TO) (q : Q (.ref z) s) : wpAny (model P w) A (pyIter (.ref z)) Q E s := by
  have ty : s.TypeIs (.ref z) "zip" := ⟨_, hz, rfl⟩
  exact wpAny_pyIter_slot ty F.slot_zip_iter (wpAny_call_entry F.slot_zip_iter ty F.entry_zip_iter (show wpAny _ _ (ret (.ref z)) _ _ s from wpAny_pure ⟨_, rfl, "zip", _, ty, F.slot_zip_next.lookup, q⟩) (F.args_zip_iter_1 _))
/-- a strict zip of two that yield n each -/
theorem walks (hh : A.in1.handled = none) (S : ZipSep2 z TI TO i1 i2 fp1 fp2) (D1 : Draws P w A.in1 i1 fp1 n P1 St1) (D2 : Draws P w A.in1 i2 fp2 n P2 St2) :
    WalksT P w A z (z :: TI :: TO :: (fp1 ++ fp2)) [z, TO, i1, i2] n (fun i vals => ∃ x y, P1 i x ∧ P2 i y ∧ vals = #[x, y])
      (fun i h => ZR h z .none TI TO ∧ IsTupOf2 h TI (.ref i1) (.ref i2) ∧ (∃ a b, IsTupOf2 h TO a b) ∧ St1 i h ∧ St2 i h)
      (fun i T h => ZR h z (rawInt T) TI TO ∧ IsTupOf2 h TI (.ref i1) (.ref i2) ∧ (∃ a b, IsTupOf2 h TO a b) ∧ St1 (i + 1) h ∧ St2 (i + 1) h ∧ T ∉ [z, TO, i1, i2]) where
  sub := fun b m => by
    simp only [List.mem_cons, List.not_mem_nil, or_false, List.mem_append] at m ⊢
    rcases m with rfl | rfl | rfl | rfl
    · exact .inl rfl
    · exact .inr (.inr (.inl rfl))
    · exact .inr (.inr (.inr (.inl S.mem1)))
    · exact .inr (.inr (.inr (.inr S.mem2)))
  frame := fun i h h' ⟨q1, q2, ⟨a, b, q3⟩, q4, q5⟩ k => ⟨k z (by simp) _ q1, k TI (by simp) _ q2, ⟨a, b, k TO (by simp) _ q3⟩, D1.frame _ _ _ q4 fun b hb => k b (by simp [hb]), D2.frame _ _ _ q5 fun b hb => k b (by simp [hb])⟩
  item := fun i s Q E lt ⟨q1, q2, ⟨a, b, q3⟩, q4, q5⟩ q => by
    refine by_next q1 (zip_more S D1 D2 q1 q2 q3 q4 q5 lt lt fun x1 x2 h' tk N p1 p2 eN z' o' d1 d2 t' sz k => ⟨_, rfl, ?_⟩)
    have fz := Nat.ne_of_gt (Heap.lt_size q1)
    have fo := Nat.ne_of_gt (Heap.lt_size q3)
    obtain ⟨_, v1⟩ := D1.live _ _ q4
    obtain ⟨_, v2⟩ := D2.live _ _ q5
    have f1 := Nat.ne_of_gt (Heap.lt_size v1)
    have f2 := Nat.ne_of_gt (Heap.lt_size v2)
    subst eN
    exact q s.heap.objs.size #[x1, x2] h' tk ⟨x1, x2, p1, p2, rfl⟩ (Nat.le_refl _) ⟨_, t', rfl, _, rfl⟩ ⟨z', k TI _ (by simp [S.TIz, S.TITO, S.TIi1, S.TIi2]) q2, ⟨x1, x2, o'⟩, d1, d2, by simp [fz, fo, f1, f2]⟩ k
  go := fun elts k pos i T s Q E ⟨q1, q2, ⟨a, b, q3⟩, q4, q5, nt⟩ q => lets_go q1 fun h' z' sb => q h' ⟨z', (sb.2 _ S.TIz).trans q2, ⟨a, b, (sb.2 _ S.TOz).trans q3⟩, D1.over q4 sb S.zf1, D2.over q5 sb S.zf2⟩ fun b o hb x => (sb.2 b fun e => hb (by simp [e])).trans x
  apart := fun i T h q => q.2.2.2.2.2
  done := fun s Q E ⟨q1, q2, ⟨a, b, q3⟩, q4, q5⟩ q => by
    refine by_next q1 (zip_done hh S D1 D2 q1 q2 q3 q4 q5 fun h' e ex k => ⟨?_, q h' s.toks fun b o hb x => k b o (fun m => hb ?_) x⟩)
    · obtain ⟨o, y1, y2⟩ := ex
      exact ⟨e, o, rfl, y1, y2⟩
    · simp only [List.mem_cons, List.not_mem_nil, or_false] at m ⊢
      rcases m with m | m | m
      · exact .inl m
      · exact .inr (.inr (.inl m))
      · exact .inr (.inr (.inr m))
  self := fun i s Q E ⟨q1, _⟩ q => itself q1 q
end
end Zq
/-! Zq4: rows (lists, tuples); walks of pairs as turns. -/
namespace Zs
open PySem PySem.Spec PyProof.Rows L2
/-- a row: a list, or a tuple -/
def SqK (k : Bool) (K : PySem.W.Frag) (H : Hp) (a : Addr) (xs : List V) : Prop := match k with
  | true => SqL K H a xs
  | false => SqT K H a xs
/-- where a walk of a row stands -/
def CurK (k : Bool) (h : Heap) (it a : Addr) (i : Nat) : Prop := match k with
  | true => h.IsListIter it a i
  | false => h.IsTupleIter it a i
def RowK (k : Bool) (h : Heap) (a : Addr) (vs : Array Value) : Prop := match k with
  | true => h.IsList a vs
  | false => h.IsTuple a vs
theorem CurK.obj {k : Bool} {h : Heap} {it a : Addr} {i : Nat} (c : CurK k h it a i) : ∃ o vs, h.get? it = some o ∧ o.data = .fields vs := by
  cases k <;> exact let ⟨o, q, _, d⟩ := c; ⟨o, _, q, d⟩
theorem CurK.on {k : Bool} {h h' : Heap} {it a : Addr} {i : Nat} (c : CurK k h it a i) (f : ∀ o, h.get? it = some o → h'.get? it = some o) : CurK k h' it a i := by
  cases k <;> exact let ⟨o, q, r⟩ := c; ⟨o, f o q, r⟩
theorem drawK (k : Bool) {P : Program} {w : World} {A : Around} (hh : A.handled = none) {it a : Addr} (ne : a ≠ it) (vs : Array Value) : Draws P w A it [it, a] vs.size (fun i v => vs[i]? = some v) (fun i h => CurK k h it a i ∧ RowK k h a vs) := by
  cases k
  · exact Draws.tuple hh it a ne vs
  · exact Draws.list hh it a ne vs
section
variable {X : Cx} {pins : List (Addr × Obj)} {σ : L2.St} {H : Hp} {s : Shared}
theorem rowK {k : Bool} {a : Addr} {xs : List V} (I : Inv X pins σ H s) (h : SqK k X.K H a xs) : ∃ us : List Value, Vals xs us ∧ RowK k s.heap a us.toArray := by
  cases k
  · exact let ⟨us, r, t, _⟩ := I.tuple h; ⟨us, r, t⟩
  · exact let ⟨us, r, ⟨o, n, q1, q2, _, q3⟩, _⟩ := I.list h; ⟨us, r, o, q1, q2, n, q3⟩
theorem oneK {k : Bool} {a : Addr} {xs ys : List V} (I : Inv X pins σ H s) (h : SqK k X.K H a xs) (q : SqK k X.K H a ys) : xs = ys := by
  cases k
  · exact I.tuple_inj h q
  · exact I.list_inj h q
end
/-- two rows in step -/
def Itz2 (K : PySem.W.Frag) (k1 k2 : Bool) (a b : Addr) : It where
  go i H := ∃ xs ys : List V, SqK k1 K H a xs ∧ SqK k2 K H b ys ∧ xs.length = ys.length ∧ i < xs.length
  yld i H v H' := ∃ T x y, v = .ref T ∧ H T = none ∧ H' = upd H T (.tup [x, y]) ∧ (∀ xs, SqK k1 K H a xs → xs[i]? = some x) ∧ ∀ ys, SqK k2 K H b ys → ys[i]? = some y
  stop i H := ∃ xs ys : List V, SqK k1 K H a xs ∧ SqK k2 K H b ys ∧ xs.length = i ∧ ys.length = i
/-- a row with its numbers -/
def Ite2 (K : PySem.W.Frag) (k : Bool) (a : Addr) : It where
  go i H := ∃ (xs : List V) (x : V), SqK k K H a xs ∧ xs[i]? = some x
  yld i H v H' := ∃ T x, v = .ref T ∧ H T = none ∧ H' = upd H T (.tup [.int (i : Nat), x]) ∧ ∀ xs, SqK k K H a xs → xs[i]? = some x
  stop i H := ∃ xs : List V, SqK k K H a xs ∧ xs.length = i
/-- what a walk of pairs must tell to be a turn -/
structure Pairs (X : Cx) (J : It) (it : Addr) (fp : List Addr) (tn : Nat → Heap → Prop) (i : Nat) (H : Hp) (s : Shared) (last : Bool) where
  fp' : List Addr
  wr : List Addr
  n : Nat
  Pt : Nat → Array Value → Prop
  St : Nat → Heap → Prop
  Mid : Nat → Addr → Heap → Prop
  walk : WalksT X.prog X.w X.A it fp' wr n Pt St Mid
  own : ∀ b ∈ wr, b ∈ fp
  st : St i s.heap
  up : ∀ h', St (i + 1) h' → tn (i + 1) h'
  lt : last = false → i < n
  eq : last = true → i = n
  pair : ∀ us, Pt i us → ∃ x y, Vals [x, y] us.toList ∧ ∀ T, H T = none → J.yld i H (.ref T) (upd H T (.tup [x, y]))
end Zs
/-! Zq5: walks of pairs as turns. -/
namespace Zs
open PySem PySem.Spec PyProof.Rows L2
theorem turn_of {P : Program} {w : World} {K : PySem.W.Frag} {J : It} {fp : List Addr} {it : Addr} {tn : Nat → Heap → Prop} {elts : List Expr} {kk : Nat} {tpos : Pos} (mem : it ∈ fp)
    (obj : ∀ i h, tn i h → ∀ b ∈ fp, ∃ o, h.get? b = some o ∧ ∀ v, o.data ≠ .cell v)
    (keep : ∀ i h h', tn i h → (∀ b ∈ fp, ∀ o, h.get? b = some o → h'.get? b = some o) → tn i h')
    (self : ∀ (A : Around) (i : Nat) (s : Shared) (Q : Value → Shared → Prop) (E : Value → Shared → Prop), tn i s.heap → Q (.ref it) s → wpAny (model P w) A (pyIter (.ref it)) Q E s)
    (pr : ∀ X : Cx, X.prog = P → X.w = w → X.K = K → X.A.handled = none → ∀ i pins s σ H last, Inv X pins σ H s → tn i s.heap → (if last = true then J.stop i H else J.go i H) → Nonempty (Pairs X J it fp tn i H s last)) :
    Turn P w K (.Tuple elts kk tpos) J fp it tn where
  mem := mem
  obj := obj
  keep := keep
  self := self
  item := fun X hP hw hK hc i pins s σ H E I hf st hg => by
    subst hP hw hK
    obtain ⟨p⟩ := pr X rfl rfl rfl (I.ok.hd hc) i pins s σ H false I st (by simpa using hg)
    refine p.walk.item i s _ _ (p.lt rfl) p.st fun T us h1 tk pt new tup mid k1 => ⟨_, rfl, p.walk.go _ _ _ i T _ _ _ mid fun h2 st2 k2 => ?_⟩
    obtain ⟨x, y, r, yl⟩ := p.pair us pt
    have nT : H T = none := I.hok.fresh new
    have tup2 : IsTup h2 T us.toList.toArray := by
      obtain ⟨o, q, c⟩ := tup
      exact ⟨o, k2 T o (p.walk.apart i T h1 mid) q, c⟩
    refine ⟨.ref T, upd H T (.tup [x, y]), I.turnedNew (ch := fp) (fun b o n q => k2 b o (fun z => n (p.own b z)) (k1 b o (fun z => n (p.own b z)) q)) hf new ⟨show 2 ≤ sizeLine by decide, us.toList, r, tup2⟩, rfl, yl T nT, p.up h2 st2, fun b hb => ?_⟩
    have ne : b ≠ T := fun e => by
      subst e
      obtain ⟨o, q, _⟩ := obj i s.heap st b hb
      exact absurd (Heap.lt_size q) (Nat.not_lt.mpr new)
    rw [upd_ne ne]
    exact (hf b hb).1
  done := fun X hP hw hK hc i pins s σ H E I hf st hg => by
    subst hP hw hK
    obtain ⟨p⟩ := pr X rfl rfl rfl (I.ok.hd hc) i pins s σ H true I st (by simpa using hg)
    have e := p.eq rfl
    refine p.walk.done s _ _ (e ▸ p.st) fun h' tk k => ⟨rfl, I.turnedL (fun b o n q => k b o (fun z => n (p.own b z)) q) hf⟩
theorem get_val {xs : List V} {us : List Value} (h : Vals xs us) {i : Nat} {u : Value} (e : us.toArray[i]? = some u) : ∃ x, xs[i]? = some x ∧ RelV x u := by
  induction h generalizing i with
  | nil => simp at e
  | cons r _ ih =>
    cases i with
    | zero => exact ⟨_, rfl, by simp at e; exact e ▸ r⟩
    | succ i => exact ih (by simpa using e)
theorem turn_zip2 {P : Program} {w : World} {K : PySem.W.Frag} {elts : List Expr} {kk : Nat} {tpos : Pos} {k1 k2 : Bool} {a b z TI TO i1 i2 : Addr} (D : ZipApart z TI TO i1 i2 a b) :
    Turn P w K (.Tuple elts kk tpos) (Itz2 K k1 k2 a b) [z, TI, TO, i1, i2] z (fun i h => Zq.ZR h z .none TI TO ∧ IsTupOf2 h TI (.ref i1) (.ref i2) ∧ (∃ x y, IsTupOf2 h TO x y) ∧ CurK k1 h i1 a i ∧ CurK k2 h i2 b i) := by
  refine turn_of (by simp) (fun i h ⟨q1, q2, ⟨x, y, q3⟩, q4, q5⟩ c hc => ?_) (fun i h h' ⟨q1, q2, ⟨x, y, q3⟩, q4, q5⟩ k => ⟨k z (by simp) _ q1, k TI (by simp) _ q2, ⟨x, y, k TO (by simp) _ q3⟩, q4.on (k i1 (by simp)), q5.on (k i2 (by simp))⟩) (fun A i s Q E ⟨q1, _⟩ q => Zq.itself q1 q) fun X hP hw hK hh i pins s σ H last I ⟨q1, q2, q3, q4, q5⟩ hg => ?_
  · simp only [List.mem_cons, List.not_mem_nil, or_false] at hc
    rcases hc with e | e | e | e | e
    · exact ⟨_, e ▸ q1, fun v n => by cases n⟩
    · exact ⟨_, e ▸ q2, fun v n => by cases n⟩
    · exact ⟨_, e ▸ q3, fun v n => by cases n⟩
    · exact let ⟨o, vs, q, d⟩ := q4.obj; ⟨o, e ▸ q, fun v n => nomatch d.symm.trans n⟩
    · exact let ⟨o, vs, q, d⟩ := q5.obj; ⟨o, e ▸ q, fun v n => nomatch d.symm.trans n⟩
  subst hP hw hK
  have S : ZipSep2 z TI TO i1 i2 [i1, a] [i2, b] := { D with mem1 := by simp, zf1 := by simp [D.i1z.symm, D.l1z.symm], Tf1 := by simp [D.TOi1, D.l1TO.symm], mem2 := by simp, zf2 := by simp [D.i2z.symm, D.l2z.symm], Tf2 := by simp [D.TOi2, D.l2TO.symm], sep1_2 := by simp [D.i12, D.l2i1.symm], sep2_1 := by simp [D.i12.symm, D.l1i2.symm] }
  have whole : ∀ xs ys : List V, SqK k1 X.K H a xs → SqK k2 X.K H b ys → xs.length = ys.length → (last = true → i = xs.length) → (last = false → i < xs.length) → Nonempty (Pairs X (Itz2 X.K k1 k2 a b) z [z, TI, TO, i1, i2] (fun i h => Zq.ZR h z .none TI TO ∧ IsTupOf2 h TI (.ref i1) (.ref i2) ∧ (∃ x y, IsTupOf2 h TO x y) ∧ CurK k1 h i1 a i ∧ CurK k2 h i2 b i) i H s last) := fun xs ys sq1 sq2 ll z1 z2 => by
    obtain ⟨us, r1, ro1⟩ := rowK I sq1
    obtain ⟨vs, r2, ro2⟩ := rowK I sq2
    have n1 : us.toArray.size = xs.length := by rw [List.size_toArray]; exact r1.length.symm
    have n2 : vs.toArray.size = us.toArray.size := by rw [n1, ll, List.size_toArray]; exact r2.length.symm
    have W := Zq.walks (A := X.A) hh S (drawK k1 (A := X.A.in1) (w := X.w) (P := X.prog) hh D.l1i1 us.toArray) (n2 ▸ drawK k2 (A := X.A.in1) (w := X.w) (P := X.prog) hh D.l2i2 vs.toArray)
    refine ⟨⟨_, _, _, _, _, _, W, fun b hb => ?_, ⟨q1, q2, q3, ⟨q4, ro1⟩, q5, ro2⟩, fun h' ⟨y1, y2, y3, y4, y5⟩ => ⟨y1, y2, y3, y4.1, y5.1⟩, fun l => n1 ▸ z2 l, fun l => n1 ▸ z1 l, fun ps ⟨x, y, px, py, ev⟩ => ?_⟩⟩
    · simp only [List.mem_cons, List.not_mem_nil, or_false] at hb ⊢
      rcases hb with e | e | e | e <;> simp [e]
    · obtain ⟨x', g, rx⟩ := get_val r1 px
      obtain ⟨y', g', ry⟩ := get_val r2 py
      subst ev
      exact ⟨x', y', .cons rx (.cons ry .nil), fun T nT => ⟨T, x', y', rfl, nT, rfl, fun zs sq => (oneK I sq1 sq) ▸ g, fun zs sq => (oneK I sq2 sq) ▸ g'⟩⟩
  cases last with
  | true => obtain ⟨xs, ys, sq1, sq2, l1, l2⟩ := hg; exact whole xs ys sq1 sq2 (l1.trans l2.symm) (fun _ => l1.symm) nofun
  | false => obtain ⟨xs, ys, sq1, sq2, l1, l2⟩ := hg; exact whole xs ys sq1 sq2 l1 nofun fun _ => l2
theorem turn_enum2 {P : Program} {w : World} {K : PySem.W.Frag} {elts : List Expr} {kk : Nat} {tpos : Pos} {k : Bool} {a e it : Addr} (hei : e ≠ it) (hea : e ≠ a) (hai : a ≠ it) :
    Turn P w K (.Tuple elts kk tpos) (Ite2 K k a) [e, it] e (fun i h => (∃ old, IsEnum h e it ((i : Nat) : Int) old) ∧ CurK k h it a i) := by
  refine turn_of (by simp) (fun i h ⟨⟨old, q1⟩, q2⟩ c hc => ?_) (fun i h h' ⟨⟨old, q1⟩, q2⟩ k => ⟨⟨old, k e (by simp) _ q1⟩, q2.on (k it (by simp))⟩) (fun A i s Q E ⟨⟨old, q1⟩, _⟩ q => ?_) fun X hP hw hK hh i pins s σ H last I ⟨q1, q2⟩ hg => ?_
  · simp only [List.mem_cons, List.not_mem_nil, or_false] at hc
    rcases hc with z | z
    · exact ⟨_, z ▸ q1, fun v n => by cases n⟩
    · exact let ⟨o, vs, q, d⟩ := q2.obj; ⟨o, z ▸ q, fun v n => nomatch d.symm.trans n⟩
  · exact wpAny_pyIter_enum q1 q
  subst hP hw hK
  have whole : ∀ xs : List V, SqK k X.K H a xs → (last = true → i = xs.length) → (last = false → i < xs.length) → Nonempty (Pairs X (Ite2 X.K k a) e [e, it] (fun i h => (∃ old, IsEnum h e it ((i : Nat) : Int) old) ∧ CurK k h it a i) i H s last) := fun xs sq z1 z2 => by
    obtain ⟨us, r, ro⟩ := rowK I sq
    have ln : us.toArray.size = xs.length := by rw [List.size_toArray]; exact r.length.symm
    have W := WalksT.enumerateD (A := X.A) (drawK k (A := X.A.in1) (w := X.w) (P := X.prog) hh hai us.toArray) e hei (by simp [hei, hea]) (by simp)
    exact ⟨⟨_, _, _, _, _, _, W, fun b hb => hb, ⟨q1, q2, ro⟩, fun h' q => ⟨q.1, q.2.1⟩, fun l => ln ▸ z2 l, fun l => ln ▸ z1 l, fun vs ⟨t, x, px, ev⟩ => by
      obtain ⟨y, g, ry⟩ := get_val r px
      subst ev
      exact ⟨.int i, y, .cons ⟨t, rfl⟩ (.cons ry .nil), fun T nT => ⟨T, y, rfl, nT, rfl, fun ys sq' => (oneK I sq sq') ▸ g⟩⟩⟩⟩
  cases last with
  | true => obtain ⟨xs, sq, l⟩ := hg; exact whole xs sq (fun _ => l.symm) nofun
  | false => obtain ⟨xs, x, sq, l⟩ := hg; exact whole xs sq nofun fun _ => (List.getElem?_eq_some_iff.mp l).1
end Zs
/-! Zq6: a strict zip, an enumerate begin. -/
namespace Zs
open PySem PySem.Spec PyProof.Rows L2
abbrev enumO (i : Addr) : Obj := { cls := .type "enumerate", data := .fields #[.none, .bool false, .ref i, rawInt 0, .none, .none] }
abbrev zipO (i j : Addr) : Obj := { cls := .type "zip", data := .fields #[.none, .bool false, .bool true, .ref i, .ref j] }
abbrev tupO (vs : List Value) : Obj := { cls := .type "tuple", data := .seq vs.toArray }
theorem pure_bool {P : Program} {w : World} {A : Around} {E : Value → Shared → Prop} {s : Shared} {Q : Bool → Shared → Prop} (f : ∀ b, Q b s) (b : Bool) : wpAny (model P w) A (pure b) Q E s := wpAny_pure (f b)
theorem new_enum {v : Value} {o : Obj} {F : Heap → Prop} (B : Begins v o F) : Meets (Builtin.«enumerate.__new__» ⟨[.type "enumerate", v], []⟩) fun _ R s => F s.heap ∧ R (.ok (.ret (.ref (s.heap.push o).objs.size))) { s with heap := (s.heap.push o).push (enumO s.heap.objs.size) } := Meets.of_wp fun P w A R s ⟨f, q⟩ => by
  obtain ⟨hp, gn, dr, tk, sy⟩ := s
  have sub := sub_enumerate
  have begin {A E Q} := B.iter P w A E ⟨hp, gn, dr, tk, sy⟩ Q f
  wp_walk using begin
  refine wpAny_stack_any fun st => pure_bool (fun b => ?_) _
  cases b <;> (wp_walk using begin; exact ⟨_, rfl, q⟩)
theorem new_zip {v1 v2 : Value} {o1 o2 : Obj} {F1 F2 : Heap → Prop} (B1 : Begins v1 o1 F1) (B2 : Begins v2 o2 F2) : Meets (Builtin.«zip.__new__» ⟨[.type "zip", v1, v2], [(Str.ofString "strict", .bool true)]⟩) fun _ R s => F1 s.heap ∧ F2 s.heap ∧ ∀ N h', N = s.heap.objs.size → h' = ((((s.heap.push o1).push o2).push (tupO [.ref N, .ref (N + 1)])).push (tupO [.none, .none])).push (zipO (N + 2) (N + 3)) → R (.ok (.ret (.ref (N + 4)))) { s with heap := h' } := Meets.of_wp fun P w A R s ⟨f1, f2, q⟩ => by
  obtain ⟨hp, gn, dr, tk, sy⟩ := s
  have sub := sub_zip
  have begin1 {A E Q} := B1.iter P w A E ⟨hp, gn, dr, tk, sy⟩ Q f1
  have begin2 {A E Q} := B2.iter P w A E ⟨hp.push o1, gn, dr, tk, sy⟩ Q (B2.keeps _ _ f2 fun b o x => Heap.get?_push_of_some _ x)
  wp_walk using begin1, begin2
  refine ⟨_, rfl, ?_⟩
  have g := q hp.objs.size _ rfl rfl
  simpa [Heap.size_push, Builtin.SmallTypes.ownedTupleFields, Nat.add_assoc] using g
end Zs
/-! Zq7: the calls of zip and enumerate. -/
namespace Zs
open PySem PySem.Spec PyProof.Rows L2
section
variable {P : Program} {w : World} {A : Around} {E : Value → Shared → Prop} {s : Shared} {v1 v2 : Value} {o1 o2 : Obj} {F1 F2 : Heap → Prop} {Q : Value → Shared → Prop}
theorem zip_call (B1 : Begins v1 o1 F1) (B2 : Begins v2 o2 F2) (f1 : F1 s.heap) (f2 : F2 s.heap)
    (q : ∀ N h', N = s.heap.objs.size → (∀ b o, s.heap.get? b = some o → h'.get? b = some o) → h'.get? N = some o1 → h'.get? (N + 1) = some o2 → h'.get? (N + 2) = some (tupO [.ref N, .ref (N + 1)]) → h'.get? (N + 3) = some (tupO [.none, .none]) → h'.get? (N + 4) = some (zipO (N + 2) (N + 3)) → Q (.ref (N + 4)) { s with heap := h' }) :
    wpAny (model P w) A (call (.type "zip") [v1, v2] [(Str.ofString "strict", .bool true)]) Q E s := by
  refine callType_newKw F.called_zip (by decide) (by kernel_rfl) (by kernel_rfl) (fun obj => by unfold argsOk; kernel_rfl) F.entry_zip_new (new_zip B1 B2) ⟨f1, f2, fun N h' eN eh => ?_⟩
  subst eN eh
  have push : ∀ {h : Heap} {o : Obj} {n : Nat}, o.isFreed = false → h.objs.size = n → (h.push o).get? n = some o ∧ (h.push o).objs.size = n + 1 ∧ ∀ b x, h.get? b = some x → (h.push o).get? b = some x := fun f e => ⟨e ▸ Heap.get?_push_size _ f, e ▸ Heap.size_push .., fun b x => Heap.get?_push_of_some _⟩
  obtain ⟨a1, s1, k1⟩ := push B1.free (h := s.heap) rfl
  obtain ⟨a2, s2, k2⟩ := push B2.free s1
  obtain ⟨a3, s3, k3⟩ := push (o := tupO [.ref s.heap.objs.size, .ref (s.heap.objs.size + 1)]) rfl s2
  obtain ⟨a4, s4, k4⟩ := push (o := tupO [.none, .none]) rfl s3
  obtain ⟨a5, s5, k5⟩ := push (o := zipO (s.heap.objs.size + 2) (s.heap.objs.size + 3)) rfl s4
  exact ⟨⟨_, a5, rfl⟩, q _ _ rfl (fun b o x => k5 _ _ (k4 _ _ (k3 _ _ (k2 _ _ (k1 _ _ x))))) (k5 _ _ (k4 _ _ (k3 _ _ (k2 _ _ a1)))) (k5 _ _ (k4 _ _ (k3 _ _ a2))) (k5 _ _ (k4 _ _ a3)) (k5 _ _ a4) a5⟩
theorem enum_call (B1 : Begins v1 o1 F1) (f1 : F1 s.heap)
    (q : ∀ N h', N = s.heap.objs.size → (∀ b o, s.heap.get? b = some o → h'.get? b = some o) → h'.get? N = some o1 → h'.get? (N + 1) = some (enumO N) → Q (.ref (N + 1)) { s with heap := h' }) :
    wpAny (model P w) A (call (.type "enumerate") [v1]) Q E s := by
  refine callType_new F.called_enumerate (by decide) (F.typeCall_enumerate_1 _) (F.newCall_enumerate_1 _) (fun obj => F.args_object_init_2 obj _) F.entry_enumerate_new (new_enum B1) ⟨f1, ?_⟩
  rw [Heap.size_push]
  have a2 := Heap.get?_push_size (s.heap.push o1) (o := enumO s.heap.objs.size) rfl
  rw [Heap.size_push] at a2
  exact ⟨⟨_, a2, rfl⟩, q _ _ rfl (fun b o x => Heap.get?_push_of_some _ (Heap.get?_push_of_some _ x)) (Heap.get?_push_of_some _ (Heap.get?_push_size _ B1.free)) a2⟩
end
end Zs
/-! Zq8: what is walked, as rules. -/
namespace Zs
open PySem PySem.Spec PyProof.Rows L2
def curO (k : Bool) (a : Addr) : Obj := match k with
  | true => { cls := .type "list_iterator", data := .fields #[.ref a, .int 0 0] }
  | false => { cls := .type "tuple_iterator", data := .fields #[.ref a, .int 0 0] }
theorem begK (k : Bool) (a : Addr) (vs : Array Value) : Begins (.ref a) (curO k a) fun h => RowK k h a vs := by
  cases k
  · exact begins_tuple a vs
  · exact begins_list a vs
theorem curO_at {k : Bool} {h : Heap} {it a : Addr} (e : h.get? it = some (curO k a)) : CurK k h it a 0 := by
  cases k <;> exact ⟨_, e, rfl, rfl⟩
theorem RowK.lt {k : Bool} {h : Heap} {a : Addr} {vs : Array Value} (r : RowK k h a vs) : a < h.objs.size := by
  cases k <;> exact let ⟨_, q, _⟩ := r; Heap.lt_size q
variable {X : Cx}
def iSq (K : PySem.W.Frag) (te : TE) : TI := fun σ H R => te σ H fun x H1 => (∃ z, x = .str z ∧ R (Its z) H1) ∨ ∃ a xs, x = .ref a ∧ ((SqL K H1 a xs ∧ R (Itl K a) H1) ∨ (SqT K H1 a xs ∧ R (Itt K a) H1))
def iEnum2 (K : PySem.W.Frag) (ta : TA) : TI := fun σ H R => ta σ H fun vs H1 => ∃ a xs k, vs = [.ref a] ∧ SqK k K H1 a xs ∧ R (Ite2 K k a) H1
def iZip2 (K : PySem.W.Frag) (ta : TA) : TI := fun σ H R => ta σ H fun vs H1 => ∃ a b xs ys k1 k2, vs = [.ref a, .ref b] ∧ SqK k1 K H1 a xs ∧ SqK k2 K H1 b ys ∧ R (Itz2 K k1 k2 a b) H1
/-- an iterator of one cell begins -/
theorem one_cell {tg : Expr} {pins : List (Addr × Obj)} {s : Shared} {σ : L2.St} {H : Hp} {R : It → Hp → Prop} {v : Value} {o : Obj} {F : Heap → Prop} {J : It} {tn : Addr → Nat → Heap → Prop} (I : Inv X pins σ H s) (B : Begins v o F) (f : F s.heap) (T : ∀ it, Turn X.prog X.w X.K tg J [it] it (tn it)) (z : ∀ it h, h.get? it = some o → tn it 0 h) (r : R J H) : wpAny (model X.prog X.w) X.A (pyIter v) (PIE X pins σ tg R) X.xe s :=
  B.iter _ _ _ _ s _ f ⟨_, [_], tn _, J, H, rfl, I.kept (t' := s.toks) fun b x => Heap.get?_push_of_some _, T _, z _ _ (Heap.get?_push_size _ B.free), fun b hb => by
    obtain rfl := List.mem_singleton.mp hb
    exact I.fpOk (Nat.le_refl _) (I.hok.fresh (Nat.le_refl _)), r⟩
theorem pi_sq {tg l : Expr} {tl : TE} (hl : PE X l tl) : PI X tg l (iSq X.K tl) := ⟨fun pins s σ H R I h => wpAny_mono (hl.run pins s σ H _ I h) (fun v s1 ⟨x, H1, I1, r1, q⟩ => by
  rcases q with ⟨z, e, q⟩ | ⟨a, xs, e, ⟨sq, q⟩ | ⟨sq, q⟩⟩ <;> subst e
  · obtain ⟨t, rfl⟩ := r1
    refine one_cell I1 (begins_text z t) trivial (fun it => turn_str it z t (strIterType z) ?_) (fun it h e => ⟨_, e, rfl, rfl⟩) q
    unfold strIterType
    split <;> simp
  · cases r1
    obtain ⟨us, _, ro⟩ := rowK (k := true) I1 sq
    exact one_cell I1 (begK true a us.toArray) ro (fun it => turn_list a it) (fun it h e => ⟨_, e, rfl, rfl⟩) q
  · cases r1
    obtain ⟨us, _, ro⟩ := rowK (k := false) I1 sq
    exact one_cell I1 (begK false a us.toArray) ro (fun it => turn_tuple a it) (fun it h e => ⟨_, e, rfl, rfl⟩) q) fun _ _ x => x⟩
theorem pi_enum2 {e : Expr} {ta : TA} {p pos tpos : Pos} {elts : List Expr} {kk : Nat} (hg : Gl X "enumerate") (hm : X.mg "enumerate" = none) (ha : PA X [e] ta) (hs : starEach [e] X.env = [(false, eval e X.env)]) :
    PI X (.Tuple elts kk tpos) (.Call (.Name "enumerate" p) [e] [] pos) (iEnum2 X.K ta) := ⟨fun pins s σ H R I h => Call_ (ld_blt I hg hm boot_enumerate (PyProof.Rows.callWith_type1 (wpAny_mono (ha.run pos pins s σ H _ I h) (fun us s1 ⟨vs, H1, I1, r1, a, xs, k, ev, sq, q⟩ => by
  subst ev
  obtain ⟨⟩ | ⟨⟨⟩, ⟨⟩⟩ := r1
  obtain ⟨ws, _, ro⟩ := rowK I1 sq
  have al := ro.lt
  refine enum_call (begK k a ws.toArray) ro fun N h' eN kp c1 c2 => wpAny_pyIter_enum (i := 0) (old := .none) c2 ?_
  refine ⟨N + 1, [N + 1, N], _, _, H1, rfl, I1.kept (t' := s1.toks) kp, turn_enum2 (Nat.succ_ne_self _) (Nat.ne_of_gt (Nat.lt_succ_of_lt (eN ▸ al))) (Nat.ne_of_lt (eN ▸ al)), ⟨⟨.none, c2⟩, curO_at c1⟩, fun b hb => ?_, q⟩
  have le : s1.heap.objs.size ≤ b := by
    simp only [List.mem_cons, List.not_mem_nil, or_false] at hb
    rcases hb with z | z <;> rw [z, eN]
    · exact Nat.le_succ _
    · exact Nat.le_refl _
  exact I1.fpOk le (I1.hok.fresh le)) fun _ _ x => x) hs rfl))⟩
theorem pi_zip2 {e e2 : Expr} {ta : TA} {p pos tpos kp cp : Pos} {elts : List Expr} {kk kc : Nat} (hg : Gl X "zip") (hm : X.mg "zip" = none) (ha : PA X [e, e2] ta)
    (he : backTo pos (starEach [e, e2] X.env) = (false, eval e X.env) :: backTo pos (starEach [e2] X.env)) (hpl : (backTo pos (starEach [e, e2] X.env)).any (·.1) = false) :
    PI X (.Tuple elts kk tpos) (.Call (.Name "zip" p) [e, e2] [⟨some "strict", .Constant (.bool true) kc cp, kp⟩] pos) (iZip2 X.K ta) := ⟨fun pins s σ H R I h => by
  refine wpAny_Call_Name_kw (ld_blt I hg hm boot_zip (PySem.W.callWith_of (P := fun _ => True) (by rw [hpl]; rfl) (fun h _ => ⟨.machine, .inr (.inl rfl), PySem.W.Looks.now⟩) ?_))
  rw [he]
  refine evalArgs_kwB rfl ?_
  rw [← he]
  refine wpAny_mono (ha.run pos pins s σ H _ I h) (fun us s1 ⟨vs, H1, I1, r1, a, b, xs, ys, k1, k2, ev, sq1, sq2, q⟩ => ?_) fun _ _ x => x
  subst ev
  have hk : PK X [⟨some "strict", .Constant (.bool true) kc cp, kp⟩] (tCons (tC (.bl true)) tNil) := pk_cons pe_bl pk_nil
  refine wpAny_mono (hk.run pos pins s1 σ H1 (fun vs H2 => vs = [.bl true] ∧ H2 = H1) I1 ⟨rfl, rfl⟩) (fun ws s2 ⟨ts, H2, I2, r2, e1, e2⟩ => ⟨trivial, ?_⟩) fun _ _ x => x
  subst e1 e2
  obtain ⟨⟩ | ⟨⟨⟩, ⟨⟩⟩ := r2
  obtain ⟨⟩ | ⟨⟨⟩, ⟨⟩ | ⟨⟨⟩, ⟨⟩⟩⟩ := r1
  obtain ⟨as, _, ro1⟩ := rowK I2 sq1
  obtain ⟨bs, _, ro2⟩ := rowK I2 sq2
  refine zip_call (begK k1 a as.toArray) (begK k2 b bs.toArray) ro1 ro2 fun N h' eN kp c1 c2 c3 c4 c5 => Zq.itself c5 ?_
  refine ⟨N + 4, [N + 4, N + 2, N + 3, N, N + 1], _, _, H2, rfl, I2.kept (t' := s2.toks) kp, turn_zip2 (PySem.W.ktu_apart N a b (eN ▸ ro1.lt) (eN ▸ ro2.lt)), ⟨c5, c3, ⟨_, _, c4⟩, curO_at c1, curO_at c2⟩, fun c hc => ?_, q⟩
  have le : N ≤ c := by
    simp only [List.mem_cons, List.not_mem_nil, or_false] at hc
    rcases hc with z | z | z | z | z <;> rw [z] <;> first | exact Nat.le_add_right _ _ | exact Nat.le_refl _
  exact I2.fpOk (eN ▸ le) (I2.hok.fresh (eN ▸ le))⟩
end Zs
/-! Mn14: what is walked; loops. -/
namespace Mn
open PySem PySem.Spec PyProof.Rows L2
/-- an iterator yields what is read -/
def Wk (T : Tb) (m0 : Wd) (J : L2.It) (rd : List S → List O → Option (List D)) : Prop := ∀ Rs m G H σ e i ys, m0.sub m → RlG T Rs m G H → RlS T Rs m e σ H → rd e G = some ys →
  (ys.length = i → J.stop i H) ∧ ∀ x, ys[i]? = some x → J.go i H ∧ ∀ v H', J.yld i H v H' → ∃ m', m.le m' ∧ RlG T Rs m' G H' ∧ RlS T Rs m' e σ H' ∧ Den T m' x v
def tI (T : Tb) (Wx : WX) (r : List S → List O → R Sr) : TI := fun σ H Rk => ∃ Rs m G e, RlG T Rs m G H ∧ RlS T Rs m e σ H ∧ OkR T Rs Wx m σ (r e G) fun sr m' e' G' H' => ∀ J, Wk T m' J (rdS sr) → Rk J H'
theorem PI.imp {X : Cx} {tg it : Expr} {t t' : TI} (h : PI X tg it t) (i : ∀ σ H Q, t' σ H Q → t σ H Q) : PI X tg it t' := ⟨fun pins s σ H R I q => h.run pins s σ H R I (i σ H R q)⟩
/-- the slots whose objects are walked -/
def srB : Sr → List Nat
  | .seq (.b i) => [i]
  | _ => []
/-- .. as long as these slots stay -/
def WkS (T : Tb) (m0 : Wd) (σ0 : L2.St) (bs : List Nat) (J : L2.It) (rd : List S → List O → Option (List D)) : Prop := ∀ Rs m G H σ e i ys, m0.sub m → (∀ j ∈ bs, σ[j]? = σ0[j]?) → RlG T Rs m G H → RlS T Rs m e σ H → rd e G = some ys →
  (ys.length = i → J.stop i H) ∧ ∀ x, ys[i]? = some x → J.go i H ∧ ∀ v H', J.yld i H v H' → ∃ m', m.le m' ∧ RlG T Rs m' G H' ∧ RlS T Rs m' e σ H' ∧ Den T m' x v
theorem Wk.toS {T : Tb} {m0 : Wd} {σ0 : L2.St} {bs : List Nat} {J : L2.It} {rd : List S → List O → Option (List D)} (h : Wk T m0 J rd) : WkS T m0 σ0 bs J rd := fun Rs m G H σ e i ys l _ g s q => h Rs m G H σ e i ys l g s q
def tJ (T : Tb) (Wx : WX) (r : List S → List O → R Sr) : TI := fun σ H Rk => ∃ Rs m G e, RlG T Rs m G H ∧ RlS T Rs m e σ H ∧ OkR T Rs Wx m σ (r e G) fun sr m' e' G' H' => ∀ J, WkS T m' σ (srB sr) J (rdS sr) → Rk J H'
theorem PI.toJ {X : Cx} {T : Tb} {Wx : WX} {tg it : Expr} {r : List S → List O → R Sr} (h : PI X tg it (tI T Wx r)) : PI X tg it (tJ T Wx r) := PI.imp h fun σ H Q ⟨Rs, m, G, e, g, s, h⟩ => ⟨Rs, m, G, e, g, s, OkR.imp h fun sr m' e' G' H' _ _ _ k J w => k J w.toS⟩
theorem srB_own {sr : Sr} {e : List S} {G : List O} {xs : List D} (h : rdS sr e G = some xs) {j : Nat} (hj : j ∈ srB sr) : ∃ o, e[j]? = some (.own o) := by
  cases sr with
  | seq w =>
    cases w with
    | b i =>
      have ej : j = i := by simpa [srB] using hj
      subst ej
      have h' : (match rdO e G (.b j) with | some (.lst xs) => some xs | _ => none) = some xs := h
      have h' : (match (match e[j]? with | some (S.own o) => some o | _ => none) with | some (.lst xs) => some xs | _ => none) = some xs := h'
      cases q : e[j]? with
      | none => rw [q] at h'; cases h'
      | some z =>
        cases z with
        | own o => exact ⟨o, rfl⟩
        | _ => rw [q] at h'; cases h'
    | _ => cases hj
  | _ => cases hj
def kindW : W → Bool
  | .d (.tup _) => false
  | .k _ => false
  | _ => true
section
variable {T : Tb} {Rs : Hp} {Wx : WX} {m m0 : Wd} {σ : L2.St} {G : List O} {e : List S} {H : Hp} {X : Cx}
theorem rdL_kind {w : W} {ds : List D} {v : V} (g : RlG T Rs m G H) (s : RlS T Rs m e σ H) (dw : DenW T Rs m e σ H w v) (h : rdL e G w = some ds) : ∃ p xs, v = .ref p ∧ DenL T m ds xs ∧ Zs.SqK (kindW w) T.K H p xs := by
  have gen : (∀ ys, w ≠ .d (.tup ys)) → (∀ ys, w ≠ .k ys) → kindW w = true → ∃ p xs, v = .ref p ∧ DenL T m ds xs ∧ Zs.SqK (kindW w) T.K H p xs := fun nt nk hk => by
    obtain ⟨p, xs, e1, l, sq⟩ := rdL_lst g s dw h nt nk
    refine ⟨p, xs, e1, l, ?_⟩
    rw [hk]
    exact sq
  cases w with
  | d x =>
    cases x with
    | tup ys =>
      cases h
      obtain ⟨p, xs, rfl, h1, h2⟩ := dw
      exact ⟨p, xs, rfl, h2, .inl (.inl (g.fz _ _ h1))⟩
    | _ => exact gen (fun _ z => nomatch z) (fun _ z => nomatch z) rfl
  | k ys =>
    cases h
    obtain ⟨p, xs, rfl, h1, h2⟩ := dw
    refine ⟨p, xs, rfl, h2, ?_⟩
    rcases h1 with h1 | h1
    · rcases h1 with h1 | ⟨_, h1⟩ <;> cases h1
    · exact .inr h1
  | _ => exact gen (fun _ z => nomatch z) (fun _ z => nomatch z) rfl
theorem DenS.subm {m' : Wd} {w : W} {v : V} (h : DenS T m σ w v) (l : m.sub m') : DenS T m' σ w v := by
  cases w with
  | d x => exact Den.subm l x v h
  | f o => exact h.elim
  | b i => exact h
  | k ds => obtain ⟨p, xs, a, b, c⟩ := h; exact ⟨p, xs, a, b, DenL.subm l ds xs c⟩
/-- what stands, whatever the slots -/
theorem DenS.any {σ' : L2.St} {w : W} {v : V} (hb : ∀ i, w ≠ .b i) (h : DenS T m σ w v) : DenS T m σ' w v := by
  cases w with
  | b i => exact absurd rfl (hb i)
  | _ => exact h
theorem wk_str {z : Str} : Wk T m0 (Its z) (rdS (.seq (.d (.str z)))) := fun Rs m G H σ e i ys l g s h => by
  cases h
  refine ⟨fun hl => ?_, fun x hx => ⟨?_, fun v H' hy => ?_⟩⟩
  · show z.cps.size ≤ i
    rw [List.length_map, Array.length_toList] at hl
    omega
  · rw [List.getElem?_map] at hx
    cases q : z.cps.toList[i]? with
    | none => rw [q] at hx; cases hx
    | some c =>
      have := (List.getElem?_eq_some_iff.mp q).1
      show i < z.cps.size
      simpa using this
  · obtain ⟨rfl, c, hc, rfl⟩ := hy
    refine ⟨m, Wd.le.refl m, g, s, ?_⟩
    rw [List.getElem?_map, Array.getElem?_toList, hc] at hx
    cases hx
    exact rfl
theorem wk_sq {w : W} {v : V} {p : Addr} (ev : v = .ref p) (hb : ∀ i, w ≠ .b i) (hs : ∀ z, w ≠ .d (.str z)) (h0 : DenS T m0 σ w v) : Wk T m0 (if kindW w then Itl T.K p else Itt T.K p) (rdS (.seq w)) := fun Rs m G H σ' e i ys l g s h => by
  have hr : rdL e G w = some ys := by
    have h' : rdI e G w = some ys := h
    cases w with
    | d x =>
      cases x with
      | str z => exact absurd rfl (hs z)
      | _ => exact h'
    | _ => exact h'
  have dw : DenW T Rs m e σ' H w v := ((h0.subm l).any hb).toW
  obtain ⟨p', xs, e1, dl, sq⟩ := rdL_kind g s dw hr
  have ep : p' = p := by rw [ev] at e1; cases e1; rfl
  subst ep
  cases hk : kindW w with
  | true =>
    rw [hk] at sq
    have sq : SqL T.K H p' xs := sq
    refine ⟨fun hl => ⟨xs, sq, by rw [← dl.length]; omega⟩, fun x hx => ?_⟩
    obtain ⟨y, hy, dy⟩ := dl.get hx
    refine ⟨⟨xs, y, sq, hy⟩, fun v' H' ⟨eH, q⟩ => ?_⟩
    subst eH
    have := q xs sq
    rw [hy] at this
    cases this
    exact ⟨m, Wd.le.refl m, g, s, dy⟩
  | false =>
    rw [hk] at sq
    have sq : SqT T.K H p' xs := sq
    refine ⟨fun hl => ⟨xs, sq, by rw [← dl.length]; omega⟩, fun x hx => ?_⟩
    obtain ⟨y, hy, dy⟩ := dl.get hx
    refine ⟨⟨xs, y, sq, hy⟩, fun v' H' ⟨eH, q⟩ => ?_⟩
    subst eH
    have := q xs sq
    rw [hy] at this
    cases this
    exact ⟨m, Wd.le.refl m, g, s, dy⟩
def evSeq (ra : Ev) : List S → List O → R Sr := fun e G => (ra e G).soft.bind fun w e G => (match w with | .b _ => .no | w => if (rdI e G w).isSome then .ok (.seq w) e G else .no)
theorem i_seq (hK : X.K = T.K) {tg l : Expr} {ra : Ev} (ha : PE X l (tE T Wx ra)) : PI X tg l (tI T Wx (evSeq ra)) := by
  refine PI.imp (Zs.pi_sq (PE.imp ha fun _ _ _ => tE_of_tW)) fun σ H Q ⟨Rs, m, G, e, g, s, h⟩ => ⟨Rs, m, G, e, g, s, OkR.thn h fun w m1 e1 G1 H1 l1 g1 s1 h1 v dw => ?_⟩
  have hb : ∀ i, w ≠ .b i := fun i z => by subst z; exact h1.elim
  have h2 : OkR T Rs Wx m1 σ (if (rdI e1 G1 w).isSome then .ok (.seq w) e1 G1 else .no) fun sr m' e' G' H' => ∀ J, Wk T m' J (rdS sr) → Q J H' := by
    cases w with
    | b i => exact absurd rfl (hb i)
    | _ => exact h1
  cases q : rdI e1 G1 w with
  | none => rw [q] at h2; exact h2.elim
  | some ys =>
    rw [q] at h2
    have h3 := h2 m1 H1 (Wd.le.refl _) g1 s1
    have hs : (∃ z, w = .d (.str z)) ∨ ∀ z, w ≠ .d (.str z) := by
      cases w with
      | d x => cases x <;> first | exact .inl ⟨_, rfl⟩ | exact .inr (fun z h => by cases h)
      | _ => exact .inr (fun z h => by cases h)
    rcases hs with ⟨z, rfl⟩ | hs
    · have ev : v = .str z := dw
      exact .inl ⟨z, ev, h3 _ wk_str⟩
    · have hr : rdL e1 G1 w = some ys := by
        cases w with
        | d x =>
          cases x with
          | str z => exact absurd rfl (hs z)
          | _ => exact q
        | _ => exact q
      obtain ⟨p, xs, ev, dl, sq⟩ := rdL_kind g1 s1 dw.toW hr
      have wk := h3 _ (wk_sq ev hb hs dw)
      refine .inr ⟨p, xs, ev, ?_⟩
      rw [hK]
      cases hk : kindW w with
      | true =>
        rw [hk] at sq wk
        exact .inl ⟨sq, wk⟩
      | false =>
        rw [hk] at sq wk
        exact .inr ⟨sq, wk⟩
/-- a slot's own list is walked -/
def evOwnl (i : Nat) : List S → List O → R Sr := fun e G => (match (e[i]? : Option S) with | some (.own (.lst _)) => .ok (.seq (.b i)) e G | _ => .no)
theorem wk_own {i : Nat} {p : Addr} (h0 : σ[i]? = some (some (.ref p))) : WkS T m0 σ [i] (Itl T.K p) (rdS (.seq (.b i))) := fun Rs m G H σ' e k ys l hb g s h => by
  have hr : rdL e G (.b i) = some ys := h
  have dw : DenW T Rs m e σ' H (.b i) (.ref p) := by
    show σ'[i]? = _
    rw [hb i (List.mem_singleton.mpr rfl), h0]
  obtain ⟨p', xs, e1, dl, sq⟩ := rdL_kind g s dw hr
  cases e1
  have sq : SqL T.K H p xs := sq
  refine ⟨fun hl => ⟨xs, sq, by rw [← dl.length]; omega⟩, fun x hx => ?_⟩
  obtain ⟨y, hy, dy⟩ := dl.get hx
  refine ⟨⟨xs, y, sq, hy⟩, fun v' H' ⟨eH, q⟩ => ?_⟩
  subst eH
  have := q xs sq
  rw [hy] at this
  cases this
  exact ⟨m, Wd.le.refl m, g, s, dy⟩
theorem j_ownl (hK : X.K = T.K) {tg : Expr} {i : Nat} {x : Str} {p : Pos} (hN : X.N[i]? = some x) (hv : Vis X.env.scope x) (hd : (x == ("__debug__" : Str)) = false) (hcd : (x == ("__classdict__" : Str)) = false) : PI X tg (.Name x p) (tJ T Wx (evOwnl i)) := by
  refine PI.imp (Zs.pi_sq (pe_var hN hv hd hcd)) fun σ H Q ⟨Rs, m, G, e, g, s, h⟩ => ?_
  unfold evOwnl at h
  cases q : e[i]? with
  | none => rw [q] at h; exact h.elim
  | some z =>
    rw [q] at h
    cases z with
    | own o =>
      cases o with
      | lst ds =>
        obtain ⟨p, h1, h2, h3, h4, h5⟩ := s.o i _ q
        have h5' : DenO T m H true (.lst ds) p := by
          obtain ⟨xs, y, l⟩ := h5
          exact ⟨xs, y.elim (fun z => .inl z) (fun z => nomatch z.1), l⟩
        obtain ⟨xs, rd, dl⟩ := rd_lst h5'
        refine ⟨_, h1, .inr ⟨p, xs, rfl, .inl ⟨.inl rd, ?_⟩⟩⟩
        rw [hK]
        exact h m H (Wd.le.refl _) g s _ (wk_own h1)
      | _ => exact h.elim
    | _ => exact h.elim
theorem wk_rng {a : Int} {n : Nat} : Wk T m0 (Itr a n) (rdS (.rng a n)) := fun Rs m G H σ e i ys l g s h => by
  cases h
  refine ⟨fun hl => ?_, fun x hx => ?_⟩
  · show n ≤ i
    rw [List.length_map, List.length_range] at hl
    omega
  · rw [List.getElem?_map] at hx
    by_cases hi : i < n
    · rw [List.getElem?_range hi] at hx
      cases hx
      exact ⟨hi, fun v H' ⟨eH, ev⟩ => by subst eH ev; exact ⟨m, Wd.le.refl m, g, s, rfl⟩⟩
    · rw [List.getElem?_eq_none (by rw [List.length_range]; omega)] at hx
      cases hx
def evRngK (x y : D) (e : List S) (G : List O) : R Sr := match x, y with
    | .int i, .int j => if decide (-(2 ^ 62) ≤ i) && decide (i < 2 ^ 62) && decide (-(2 ^ 62) ≤ j) && decide (j < 2 ^ 62) && decide (j - i ≤ sLn) then .ok (.rng i (j - i).toNat) e G else .no
    | _, _ => .no
def evRng (ra rb : Ev) : List S → List O → R Sr := fun e G => (ra e G).toD.bind fun x e G => (rb e G).toD.bind fun y e G => evRngK x y e G
theorem i_rng1 {tg a : Expr} {p pos : Pos} {ra : Ev} (hg : Gl X "range") (hm : X.mg "range" = none) (ha : PE X a (tE T Wx ra)) (hs : starEach [a] X.env = (false, eval a X.env) :: starEach [] X.env) : PI X tg (.Call (.Name "range" p) [a] [] pos) (tI T Wx (evRng (fun e G => .ok (.d (.int 0)) e G) ra)) := by
  refine PI.imp (pi_range1 hg hm (pa_cons (PE.imp ha fun _ _ _ => tE_of_tD) pa_nil hs) hs) fun σ H Q ⟨Rs, m, G, e, g, s, h⟩ => ⟨Rs, m, G, e, g, s, OkR.thn (show OkR T Rs Wx m σ ((ra e G).toD.bind fun y e G => evRngK (.int 0) y e G) _ from h) fun y m1 e1 G1 H1 l1 g1 s1 h1 v dn => ?_⟩
  cases y with
  | int j =>
    unfold evRngK at h1
    dsimp only at h1
    cases hb : (decide (-(2 ^ 62) ≤ (0 : Int)) && decide ((0 : Int) < 2 ^ 62) && decide (-(2 ^ 62) ≤ j) && decide (j < 2 ^ 62) && decide (j - 0 ≤ (sLn : Int))) with
    | false => rw [hb] at h1; exact h1.elim
    | true =>
      rw [hb] at h1
      simp only [Bool.and_eq_true, decide_eq_true_eq] at hb
      have h2 := h1 m1 H1 (Wd.le.refl _) g1 s1 _ wk_rng
      rw [Int.sub_zero] at h2
      have ev : v = .int j := dn
      exact ⟨j, by rw [ev], by omega, by omega, h2⟩
  | _ => exact h1.elim
theorem i_rng2 {tg a b : Expr} {p pos : Pos} {ra rb : Ev} (hg : Gl X "range") (hm : X.mg "range" = none) (ha : PE X a (tE T Wx ra)) (hb : PE X b (tE T Wx rb)) (hs : starEach [a, b] X.env = (false, eval a X.env) :: starEach [b] X.env) (hs2 : starEach [b] X.env = (false, eval b X.env) :: starEach [] X.env) :
    PI X tg (.Call (.Name "range" p) [a, b] [] pos) (tI T Wx (evRng ra rb)) := by
  refine PI.imp (pi_range2 hg hm (pa_cons (PE.imp ha fun _ _ _ => tE_of_tD) (pa_cons (PE.imp hb fun _ _ _ => tE_of_tD) pa_nil hs2) hs) (by rw [hs, hs2] <;> rfl) hs2) fun σ H Q ⟨Rs, m, G, e, g, s, h⟩ => ⟨Rs, m, G, e, g, s, OkR.thn h fun x m1 e1 G1 H1 l1 g1 s1 h1 v dn => ⟨Rs, m1, G1, e1, g1, s1, OkR.thn h1 fun y m2 e2 G2 H2 l2 g2 s2 h2 u dn2 => ?_⟩⟩
  cases x with
  | int i =>
    cases y with
    | int j =>
      unfold evRngK at h2
      dsimp only at h2
      cases hb : (decide (-(2 ^ 62) ≤ i) && decide (i < 2 ^ 62) && decide (-(2 ^ 62) ≤ j) && decide (j < 2 ^ 62) && decide (j - i ≤ (sLn : Int))) with
      | false => rw [hb] at h2; exact h2.elim
      | true =>
        rw [hb] at h2
        simp only [Bool.and_eq_true, decide_eq_true_eq] at hb
        have h3 := h2 m2 H2 (Wd.le.refl _) g2 s2 _ wk_rng
        have ev : v = .int i := dn
        have eu : u = .int j := dn2
        exact ⟨i, j, by rw [ev, eu], ⟨by omega, by omega, by omega, by omega⟩, h3⟩
    | _ => exact h2.elim
  | _ => exact h2.elim
/-- what is constant -/
theorem rdL_same {w : W} {ds : List D} {σ' : L2.St} {G' : List O} {e' : List S} (hb : ∀ i, w ≠ .b i) (hg : ∀ n, w ≠ .d (.g n)) (h : rdL e G w = some ds) : rdL e' G' w = some ds := by
  cases w with
  | d x =>
    cases x with
    | g n => exact absurd rfl (hg n)
    | _ => exact h
  | b i => exact absurd rfl (hb i)
  | _ => exact h
theorem wk_enum {w : W} {v : V} {p : Addr} (ev : v = .ref p) (hb : ∀ i, w ≠ .b i) (h0 : DenS T m0 σ w v) : Wk T m0 (Zs.Ite2 T.K (kindW w) p) (rdS (.enum w)) := fun Rs m G H σ' e i ys l g s h => by
  have dw : DenW T Rs m e σ' H w v := ((h0.subm l).any hb).toW
  have h' : (rdL e G w).map (fun xs => (xs.zipIdx).map fun p => D.tup [.int p.2, p.1]) = some ys := h
  cases hr : rdL e G w with
  | none => rw [hr] at h'; cases h'
  | some ds =>
    rw [hr] at h'
    cases h'
    obtain ⟨p', xs, e1, dl, sq⟩ := rdL_kind g s dw hr
    have ep : p' = p := by rw [ev] at e1; cases e1; rfl
    subst ep
    refine ⟨fun hl => ⟨xs, sq, ?_⟩, fun x hx => ?_⟩
    · rw [← dl.length]
      simpa using hl
    · rw [List.getElem?_map, List.getElem?_zipIdx] at hx
      cases q : ds[i]? with
      | none => rw [q] at hx; cases hx
      | some d =>
        rw [q] at hx
        simp only [Option.map_some, Nat.zero_add, Option.some.injEq] at hx
        subst hx
        obtain ⟨y, hy, dy⟩ := dl.get q
        refine ⟨⟨xs, y, sq, hy⟩, fun v' H' ⟨Tt, y', e2, hT, eH, q2⟩ => ?_⟩
        have := q2 xs sq
        rw [hy] at this
        cases this
        subst e2 eH
        exact new_tup g s hT ⟨_, _, rfl, rfl, ⟨_, _, rfl, dy, rfl⟩⟩
def evEnum (ra : Ev) : List S → List O → R Sr := fun e G => (ra e G).soft.bind fun w e G => (match w with | .b _ => .no | .d (.g _) => .no | w => if (rdL e G w).isSome then .ok (.enum w) e G else .no)
theorem i_enum (hK : X.K = T.K) {a : Expr} {p pos tpos : Pos} {elts : List Expr} {kk : Nat} {ra : Ev} (hg : Gl X "enumerate") (hm : X.mg "enumerate" = none) (ha : PE X a (tE T Wx ra)) (hs : starEach [a] X.env = (false, eval a X.env) :: starEach [] X.env) :
    PI X (.Tuple elts kk tpos) (.Call (.Name "enumerate" p) [a] [] pos) (tI T Wx (evEnum ra)) := by
  refine PI.imp (Zs.pi_enum2 hg hm (pa_cons (PE.imp ha fun _ _ _ => tE_of_tW) pa_nil hs) hs) fun σ H Q ⟨Rs, m, G, e, g, s, h⟩ => ⟨Rs, m, G, e, g, s, OkR.thn h fun w m1 e1 G1 H1 l1 g1 s1 h1 v dw => ?_⟩
  have hb : ∀ i, w ≠ .b i := fun i z => by subst z; exact h1.elim
  have h2 : OkR T Rs Wx m1 σ (if (rdL e1 G1 w).isSome then .ok (.enum w) e1 G1 else .no) fun sr m' e' G' H' => ∀ J, Wk T m' J (rdS sr) → Q J H' := by
    cases w with
    | b i => exact absurd rfl (hb i)
    | d x => cases x <;> first | exact h1.elim | exact h1
    | _ => exact h1
  cases q : rdL e1 G1 w with
  | none => rw [q] at h2; exact h2.elim
  | some ys =>
    rw [q] at h2
    have h3 := h2 m1 H1 (Wd.le.refl _) g1 s1
    obtain ⟨p, xs, ev, dl, sq⟩ := rdL_kind g1 s1 dw.toW q
    refine ⟨p, xs, kindW w, by rw [ev], by rw [hK]; exact sq, ?_⟩
    rw [hK]
    exact h3 _ (wk_enum ev hb dw)
theorem wk_zip {w1 w2 : W} {v1 v2 : V} {p1 p2 : Addr} {σ2 : L2.St} {ds1 ds2 : List D} (ev1 : v1 = .ref p1) (ev2 : v2 = .ref p2) (hb1 : ∀ i, w1 ≠ .b i) (hb2 : ∀ i, w2 ≠ .b i) (hg1 : ∀ i, w1 ≠ .d (.g i)) (hg2 : ∀ i, w2 ≠ .d (.g i)) (r1 : rdL e G w1 = some ds1) (r2 : rdL e G w2 = some ds2) (hl : ds1.length = ds2.length) (h1 : DenS T m0 σ w1 v1) (h2 : DenS T m0 σ2 w2 v2) : Wk T m0 (Zs.Itz2 T.K (kindW w1) (kindW w2) p1 p2) (rdS (.zip w1 w2)) := fun Rs m G' H σ' e' i ys l g s h => by
  have dw1 : DenW T Rs m e' σ' H w1 v1 := ((h1.subm l).any hb1).toW
  have dw2 : DenW T Rs m e' σ' H w2 v2 := ((h2.subm l).any hb2).toW
  have r1' : rdL e' G' w1 = some ds1 := rdL_same (σ' := σ') hb1 hg1 r1
  have r2' : rdL e' G' w2 = some ds2 := rdL_same (σ' := σ') hb2 hg2 r2
  have h' : (rdL e' G' w1).bind (fun xs => (rdL e' G' w2).map fun ys => (xs.zip ys).map fun p => D.tup [p.1, p.2]) = some ys := h
  rw [r1', r2'] at h'
  cases h'
  obtain ⟨q1, xs1, e1, dl1, sq1⟩ := rdL_kind g s dw1 r1'
  obtain ⟨q2, xs2, e2, dl2, sq2⟩ := rdL_kind g s dw2 r2'
  have ep1 : q1 = p1 := by rw [ev1] at e1; cases e1; rfl
  have ep2 : q2 = p2 := by rw [ev2] at e2; cases e2; rfl
  subst ep1 ep2
  refine ⟨fun hi => ⟨xs1, xs2, sq1, sq2, ?_, ?_⟩, fun x hx => ?_⟩
  · rw [List.length_map, List.length_zip] at hi
    rw [← dl1.length]
    omega
  · rw [List.length_map, List.length_zip] at hi
    rw [← dl2.length]
    omega
  · rw [List.getElem?_map] at hx
    cases q : (ds1.zip ds2)[i]? with
    | none => rw [q] at hx; cases hx
    | some d =>
      rw [q] at hx
      simp only [Option.map_some, Option.some.injEq] at hx
      subst hx
      obtain ⟨a, b⟩ := d
      rw [List.getElem?_zip_eq_some] at q
      obtain ⟨y1, hy1, dy1⟩ := dl1.get q.1
      obtain ⟨y2, hy2, dy2⟩ := dl2.get q.2
      refine ⟨⟨xs1, xs2, sq1, sq2, by rw [← dl1.length, ← dl2.length, hl], (List.getElem?_eq_some_iff.mp hy1).1⟩, fun v' H' ⟨Tt, x', y', e3, hT, eH, z1, z2⟩ => ?_⟩
      have k1 := z1 xs1 sq1
      have k2 := z2 xs2 sq2
      rw [hy1] at k1
      rw [hy2] at k2
      cases k1
      cases k2
      subst e3 eH
      exact new_tup g s hT ⟨_, _, rfl, dy1, ⟨_, _, rfl, dy2, rfl⟩⟩
def evZip (ra rb : Ev) : List S → List O → R Sr := fun e G => (ra e G).soft.bind fun x e G => (rb e G).soft.bind fun y e G => (match x, y with
    | .b _, _ => .no
    | _, .b _ => .no
    | .d (.g _), _ => .no
    | _, .d (.g _) => .no
    | x, y => (match rdL e G x, rdL e G y with
      | some xs, some ys => if true && decide (xs.length = ys.length) then .ok (.zip x y) e G else .no
      | _, _ => .no))
theorem i_zip (hK : X.K = T.K) {a b : Expr} {p pos tpos kp cp : Pos} {elts : List Expr} {kk kc : Nat} {ra rb : Ev} (hg : Gl X "zip") (hm : X.mg "zip" = none) (ha : PE X a (tE T Wx ra)) (hb : PE X b (tE T Wx rb)) (hs : starEach [a, b] X.env = (false, eval a X.env) :: starEach [b] X.env) (hs2 : starEach [b] X.env = (false, eval b X.env) :: starEach [] X.env)
    (he : backTo pos (starEach [a, b] X.env) = (false, eval a X.env) :: backTo pos (starEach [b] X.env)) (hpl : (backTo pos (starEach [a, b] X.env)).any (·.1) = false) :
    PI X (.Tuple elts kk tpos) (.Call (.Name "zip" p) [a, b] [⟨some "strict", .Constant (.bool true) kc cp, kp⟩] pos) (tI T Wx (evZip ra rb)) := by
  refine PI.imp (Zs.pi_zip2 hg hm (pa_cons (PE.imp ha fun _ _ _ => tE_of_tW) (pa_cons (PE.imp hb fun _ _ _ => tE_of_tW) pa_nil hs2) hs) he hpl) fun σ H Q ⟨Rs, m, G, e, g, s, h⟩ => ⟨Rs, m, G, e, g, s, OkR.thn h fun w m1 e1 G1 H1 l1 g1 s1 h1 v dw => ⟨Rs, m1, G1, e1, g1, s1, OkR.thn h1 fun w2 m2 e2 G2 H2 l2 g2 s2 h2 u dw2 => ?_⟩⟩
  have hb1 : ∀ i, w ≠ .b i := fun i z => by subst z; exact h2.elim
  have hb2 : ∀ i, w2 ≠ .b i := fun i z => by
    subst z
    cases w with
    | d x => cases x <;> exact h2.elim
    | _ => exact h2.elim
  have hg1 : ∀ i, w ≠ .d (.g i) := fun i z => by
    subst z
    cases w2 with
    | d x => cases x <;> exact h2.elim
    | _ => exact h2.elim
  have hg2 : ∀ i, w2 ≠ .d (.g i) := fun i z => by
    subst z
    cases w with
    | d x => cases x <;> exact h2.elim
    | _ => exact h2.elim
  have h3 : OkR T Rs Wx m2 σ (match rdL e2 G2 w, rdL e2 G2 w2 with
      | some xs, some ys => if true && decide (xs.length = ys.length) then .ok (.zip w w2) e2 G2 else .no
      | _, _ => .no) fun sr m' e' G' H' => ∀ J, Wk T m' J (rdS sr) → Q J H' := by
    cases w with
    | b i => exact absurd rfl (hb1 i)
    | d x =>
      cases w2 with
      | b i => exact absurd rfl (hb2 i)
      | d y => cases x <;> first | exact absurd rfl (hg1 _) | (cases y <;> first | exact absurd rfl (hg2 _) | exact h2)
      | _ => cases x <;> first | exact absurd rfl (hg1 _) | exact h2
    | _ =>
      cases w2 with
      | b i => exact absurd rfl (hb2 i)
      | d y => cases y <;> first | exact absurd rfl (hg2 _) | exact h2
      | _ => exact h2
  cases q1 : rdL e2 G2 w with
  | none => rw [q1] at h3; exact h3.elim
  | some ds1 =>
    cases q2 : rdL e2 G2 w2 with
    | none => rw [q1, q2] at h3; exact h3.elim
    | some ds2 =>
      rw [q1, q2] at h3
      dsimp only at h3
      cases hq : (true && decide (ds1.length = ds2.length)) with
      | false => rw [hq] at h3; exact h3.elim
      | true =>
        rw [hq] at h3
        have hll : ds1.length = ds2.length := by simpa using hq
        have h4 := h3 m2 H2 (Wd.le.refl _) g2 s2
        obtain ⟨p1, xs1, ev1, dl1, sq1⟩ := rdL_kind g2 s2 ((dw.mono l2).toW) q1
        obtain ⟨p2, xs2, ev2, dl2, sq2⟩ := rdL_kind g2 s2 dw2.toW q2
        refine ⟨p1, p2, xs1, xs2, kindW w, kindW w2, by rw [ev1, ev2], by rw [hK]; exact sq1, by rw [hK]; exact sq2, ?_⟩
        rw [hK]
        exact h4 _ (wk_zip (e := e2) (G := G2) ev1 ev2 hb1 hb2 hg1 hg2 q1 q2 hll (dw.mono l2) dw2)
end
end Mn
/-! Mn15: for, while, list comprehensions. -/
namespace Mn
open PySem PySem.Spec PyProof.Rows L2
section
variable {T : Tb} {Rs : Hp} {Wx : WX} {m m0 : Wd} {σ : L2.St} {G : List O} {e : List S} {H : Hp} {X : Cx}
/-- a turn's body -/
theorem OkS.turn {r : RS} {f : EvS} {D : Ends} (h : OkS T Rs Wx m (match r with
        | .nx e' G' => f e' G'
        | .ct e' G' => f e' G'
        | .bk e' G' => .nx e' G'
        | r => r) D) (N : L2.St → Hp → Prop) (hN : ∀ σ H m' e' G', m.le m' → RlG T Rs m' G' H → RlS T Rs m' e' σ H → OkS T Rs Wx m' (f e' G') D → N σ H) : OkS T Rs Wx m r { D with nx := N, ct := N, bk := D.nx } := by
  cases r with
  | nx e' G' => exact fun σ m2 H2 l2 g s => hN σ H2 m2 e' G' l2 g s (OkS.le h l2)
  | ct e' G' => exact fun σ m2 H2 l2 g s => hN σ H2 m2 e' G' l2 g s (OkS.le h l2)
  | bk e' G' => exact h
  | rt w e' G' => exact h
  | ex x e' G' => exact h
  | no => exact h
def evFor (ri : List S → List O → R Sr) (t : Tg) (fb : EvS) : EvS := fun e G => (ri e G).st fun sr e G => (match rdS sr e G with
    | some xs => forD (rdS sr) (fun x e G => match setTg t x e with | some e => fb e G | none => .no) xs.length 0 e G
    | none => .no)
theorem s_for {tg iter : Expr} {body : List Stmt} {pos : Pos} {ri : List S → List O → R Sr} {t : Tg} {fb : EvS} (hp : PassesOwn (model X.prog X.w) X.A X.env X.xe) (hc : X.calm = true) (hi : PI X tg iter (tI T Wx ri)) (hg : PG X tg (tG T t)) (hb : PSs X body (tS T Wx fb))
    (hs : ∀ x, foldedSetIterable iter X.env x = pure x) : PS X (.For tg iter body [] pos) (tS T Wx (evFor ri t fb)) := by
  refine PS.imp (ps_for hp hc hi hg hb hs) fun D σ H ⟨Rs, m, G, e, g, s, h⟩ => ?_
  refine ⟨Rs, m, G, e, g, s, OkR.st h fun sr m1 e1 G1 H1 l1 g1 s1 h1 => fun J wk => ?_⟩
  cases q : rdS sr e1 G1 with
  | none => rw [q] at h1; exact h1.elim
  | some xs =>
    rw [q] at h1
    refine ⟨fun i n σ' H' => ∃ m' G' e', m1.le m' ∧ RlG T Rs m' G' H' ∧ RlS T Rs m' e' σ' H' ∧ OkS T Rs Wx m' (forD (rdS sr) (fun x e G => match setTg t x e with | some e => fb e G | none => .no) n i e' G') D, ⟨xs.length, m1, G1, e1, Wd.le.refl _, g1, s1, h1⟩, ?_⟩
    rintro i n σ2 H2 ⟨m2, G2, e2, l2, g2, s2, h2⟩
    cases n with
    | zero =>
      unfold forD at h2
      cases q2 : rdS sr e2 G2 with
      | none => rw [q2] at h2; exact h2.elim
      | some ys =>
        rw [q2] at h2
        dsimp only at h2
        by_cases hl : ys.length = i
        · rw [if_pos hl] at h2
          exact .inl ⟨(wk Rs m2 G2 H2 σ2 e2 i ys l2.1 g2 s2 q2).1 hl, h2 σ2 m2 H2 (Wd.le.refl _) g2 s2⟩
        · rw [if_neg hl] at h2
          exact h2.elim
    | succ n =>
      unfold forD at h2
      cases q2 : rdS sr e2 G2 with
      | none => rw [q2] at h2; exact h2.elim
      | some ys =>
        rw [q2] at h2
        dsimp only at h2
        cases q3 : ys[i]? with
        | none => rw [q3] at h2; exact h2.elim
        | some x =>
          rw [q3] at h2
          dsimp only at h2
          obtain ⟨go, yl⟩ := (wk Rs m2 G2 H2 σ2 e2 i ys l2.1 g2 s2 q2).2 x q3
          refine .inr ⟨go, fun σ' H' => ∃ m' G' e', m1.le m' ∧ RlG T Rs m' G' H' ∧ RlS T Rs m' e' σ' H' ∧ OkS T Rs Wx m' (forD (rdS sr) (fun x e G => match setTg t x e with | some e => fb e G | none => .no) n (i + 1) e' G') D, fun σ' H' hN => ⟨n, Nat.lt_succ_self n, hN⟩, fun v H3 hy => ?_⟩
          obtain ⟨m3, l3, g3, s3, dn⟩ := yl v H3 hy
          cases q4 : setTg t x e2 with
          | none => rw [q4] at h2; exact h2.elim
          | some e3 =>
            rw [q4] at h2
            dsimp only at h2
            refine ⟨Rs, m3, G2, e2, x, e3, g3, s3, dn, q4, fun σ4 s4 _ => ⟨Rs, m3, G2, e3, g3, s4, OkS.turn (OkS.le h2 l3) _ fun σ5 H5 m5 e5 G5 l5 g5 s5 h5 => ⟨m5, G5, e5, (l2.trans l3).trans l5, g5, s5, h5⟩⟩⟩
def evWhile (rc : List S → List O → R Bool) (fb : EvS) (N : Nat) : EvS := fun e G => whileD rc fb N e G
theorem s_while {c : Expr} {body : List Stmt} {pos : Pos} {rc : List S → List O → R Bool} {fb : EvS} {N : Nat} (hp : PassesOwn (model X.prog X.w) X.A X.env X.xe) (hc : PT X c (tBo T Wx rc)) (hb : PSs X body (tS T Wx fb)) :
    PS X (.While c body [] pos) (tS T Wx (evWhile rc fb N)) := by
  refine PS.imp (ps_while hp hc hb) fun D σ H ⟨Rs, m, G, e, g, s, h⟩ => ?_
  refine ⟨fun n σ' H' => ∃ m' G' e', RlG T Rs m' G' H' ∧ RlS T Rs m' e' σ' H' ∧ OkS T Rs Wx m' (whileD rc fb n e' G') D, ⟨N, m, G, e, g, s, h⟩, ?_⟩
  rintro n σ2 H2 ⟨m2, G2, e2, g2, s2, h2⟩
  cases n with
  | zero => exact h2.elim
  | succ n =>
    have h2' : OkS T Rs Wx m2 ((rc e2 G2).st fun b e G => if b then (match fb e G with
      | .nx e' G' => whileD rc fb n e' G'
      | .ct e' G' => whileD rc fb n e' G'
      | .bk e' G' => .nx e' G'
      | r => r) else .nx e G) D := h2
    refine ⟨Rs, m2, G2, e2, g2, s2, OkR.st h2' fun b m3 e3 G3 H3 l3 g3 s3 h3 => ?_⟩
    cases b with
    | false =>
      rw [if_neg Bool.false_ne_true]
      exact h3 σ2 m3 H3 (Wd.le.refl _) g3 s3
    | true =>
      rw [if_pos rfl]
      refine ⟨fun σ' H' => ∃ m' G' e', RlG T Rs m' G' H' ∧ RlS T Rs m' e' σ' H' ∧ OkS T Rs Wx m' (whileD rc fb n e' G') D, fun σ' H' hN => ⟨n, Nat.lt_succ_self n, hN⟩, Rs, m3, G3, e3, g3, s3, OkS.turn h3 _ fun σ5 H5 m5 e5 G5 l5 g5 s5 h5 => ⟨m5, G5, e5, g5, s5, h5⟩⟩
/-! ### comprehensions -/
theorem upd_upd {H : Hp} {p : Addr} {a b : HO} : upd (upd H p a) p b = upd H p b := by
  funext q
  by_cases h : q = p
  · rw [h, upd_same, upd_same]
  · rw [upd_ne h, upd_ne h, upd_ne h]
/-- an object that is held beside -/
theorem RlG.put {p : Addr} {u : HO} (g : RlG T Rs m G H) (hF : m.F p = none) (hr : p ∉ m.r) (hu : ∀ xs, u ≠ .tup xs) : RlG T (upd Rs p u) m G (upd H p u) where
  fz := fun q o h => by
    have ne : q ≠ p := fun z => by rw [z, hF] at h; cases h
    rw [upd_ne ne]
    exact g.fz q o h
  rs := fun q o h => by
    by_cases z : q = p
    · subst z
      rw [upd_same] at h
      cases h
      exact ⟨upd_same, hF, hr, hu⟩
    · rw [upd_ne z] at h
      rw [upd_ne z]
      exact g.rs q o h
  gl := g.gl
  gi := g.gi
  g := fun n q o h1 h2 => by
    have ne : q ≠ p := fun z => hr (z ▸ List.mem_of_getElem? h1)
    exact ⟨(g.g n q o h1 h2).1, (g.g n q o h1 h2).2.at (upd_ne ne)⟩
theorem RlS.put {p : Addr} {u : HO} (s : RlS T Rs m e σ H) (hO : ∀ (i : Nat) (q : O), e[i]? = some (.own q) → σ[i]? ≠ some (some (.ref p))) : RlS T (upd Rs p u) m e σ (upd H p u) where
  len := s.len
  d := s.d
  o := fun i o h => by
    obtain ⟨p', h1, h2, h3, h4, h5⟩ := s.o i o h
    have ne : p' ≠ p := fun z => hO i o h (by rw [h1, z])
    exact ⟨p', h1, h2, by rw [upd_ne ne]; exact h3, h4, h5.at (upd_ne ne)⟩
  an := s.an
  oi := s.oi
theorem RlS.less {Rs' : Hp} (s : RlS T Rs' m e σ H) (h : ∀ p o, Rs p = some o → Rs' p = some o) : RlS T Rs m e σ H where
  len := s.len
  d := s.d
  o := fun i o q => by
    obtain ⟨p', h1, h2, h3, h4, h5⟩ := s.o i o q
    exact ⟨p', h1, h2, none_of h h3, h4, h5⟩
  an := s.an
  oi := s.oi
theorem wipe_at {σ : L2.St} {i : Nat} : ∀ {vs : List Nat}, i ∈ vs → i < σ.length → (wipe σ vs)[i]? = some none
  | v :: vs, h, hl => by
    show ((wipe σ vs).set v none)[i]? = some none
    by_cases z : v = i
    · subst z
      exact List.getElem?_set_self (by rw [wipe_length]; exact hl)
    · rw [List.getElem?_set_ne z]
      rcases List.mem_cons.mp h with q | q
      · exact absurd q.symm z
      · exact wipe_at q hl
theorem wipeS_length (e : List S) : ∀ vs : List Nat, (wipeS e vs).length = e.length
  | [] => rfl
  | v :: vs => by
    show ((wipeS e vs).set v .un).length = _
    rw [List.length_set, wipeS_length e vs]
theorem wipeS_out {e : List S} {i : Nat} : ∀ {vs : List Nat}, i ∉ vs → (wipeS e vs)[i]? = e[i]?
  | [], _ => rfl
  | v :: vs, h => by
    show ((wipeS e vs).set v .un)[i]? = _
    rw [List.getElem?_set_ne (fun z => h (by rw [z]; exact List.mem_cons_self))]
    exact wipeS_out fun z => h (List.mem_cons_of_mem _ z)
theorem wipeS_in {e : List S} {i : Nat} {z : S} : ∀ {vs : List Nat}, i ∈ vs → (wipeS e vs)[i]? = some z → z = .un
  | v :: vs, h, q => by
    have q' : ((wipeS e vs).set v .un)[i]? = some z := q
    by_cases ev : v = i
    · subst ev
      have hl := (List.getElem?_eq_some_iff.mp q').1
      rw [List.length_set] at hl
      rw [List.getElem?_set_self hl] at q'
      cases q'
      rfl
    · rw [List.getElem?_set_ne ev] at q'
      rcases List.mem_cons.mp h with y | y
      · exact absurd y.symm ev
      · exact wipeS_in y q'
theorem RlS.wipe {vs : List Nat} (s : RlS T Rs m e σ H) (h0 : m.an = none ∨ 0 ∉ vs) : RlS T Rs m (wipeS e vs) (L2.wipe σ vs) H where
  len := by rw [wipe_length, wipeS_length]; exact s.len
  d := fun i x q => by
    by_cases h : i ∈ vs
    · have := wipeS_in h q
      cases this
    · rw [wipeS_out h] at q
      rw [wipe_out h]
      exact s.d i x q
  o := fun i x q => by
    by_cases h : i ∈ vs
    · have := wipeS_in h q
      cases this
    · rw [wipeS_out h] at q
      rw [wipe_out h]
      exact s.o i x q
  an := fun p hp => by
    rcases h0 with z | z
    · rw [z] at hp; cases hp
    · rw [wipeS_out z, wipe_out z]
      exact s.an p hp
  oi := fun i j p a b q1 q2 q3 q4 => by
    have n1 : i ∉ vs := fun h => by have := wipeS_in h q1; cases this
    have n2 : j ∉ vs := fun h => by have := wipeS_in h q2; cases this
    rw [wipeS_out n1] at q1
    rw [wipeS_out n2] at q2
    rw [wipe_out n1] at q3
    rw [wipe_out n2] at q4
    exact s.oi i j p a b q1 q2 q3 q4
theorem backS_length {e0 e : List S} : ∀ vs : List Nat, (backS e0 e vs).length = e.length
  | [] => rfl
  | v :: vs => by
    unfold backS
    cases e0[v]? with
    | none => exact backS_length vs
    | some s => rw [List.length_set]; exact backS_length vs
theorem backS_out {e0 e : List S} {i : Nat} : ∀ {vs : List Nat}, i ∉ vs → (backS e0 e vs)[i]? = e[i]?
  | [], _ => rfl
  | v :: vs, h => by
    unfold backS
    cases e0[v]? with
    | none => exact backS_out fun z => h (List.mem_cons_of_mem _ z)
    | some s =>
      dsimp only
      rw [List.getElem?_set_ne (fun z => h (by rw [z]; exact List.mem_cons_self))]
      exact backS_out fun z => h (List.mem_cons_of_mem _ z)
theorem backS_in {e0 e : List S} {i : Nat} (hl : e.length = e0.length) : ∀ {vs : List Nat}, i ∈ vs → (backS e0 e vs)[i]? = e0[i]?
  | v :: vs, h => by
    unfold backS
    cases q : e0[v]? with
    | none =>
      dsimp only
      rcases List.mem_cons.mp h with y | y
      · subst y
        rw [q]
        exact List.getElem?_eq_none (by rw [backS_length, hl]; exact List.getElem?_eq_none_iff.mp q)
      · exact backS_in hl y
    | some s =>
      dsimp only
      by_cases ev : v = i
      · subst ev
        rw [q]
        exact List.getElem?_set_self (by rw [backS_length, hl]; exact (List.getElem?_eq_some_iff.mp q).1)
      · rw [List.getElem?_set_ne ev]
        rcases List.mem_cons.mp h with y | y
        · exact absurd y.symm ev
        · exact backS_in hl y
theorem noOwn_at {vs : List Nat} (h : noOwn e vs = true) {i : Nat} (hi : i ∈ vs) (o : O) : e[i]? ≠ some (.own o) := fun z => by
  unfold noOwn at h
  have := List.all_eq_true.mp h i hi
  rw [z] at this
  cases this
/-- behind the comprehension -/
theorem RlS.backS {vs : List Nat} {e1 e2 : List S} {m1 m2 : Wd} {H1 H2 : Hp} (s1 : RlS T Rs m1 e1 σ H1) (s2 : RlS T Rs m2 e2 (L2.wipe σ vs) H2) (l : m1.le m2) (hn : noOwn e1 vs = true) : RlS T Rs m2 (Mn.backS e1 e2 vs) σ H2 := by
  have hl2 : e2.length = e1.length := by rw [← s2.len, wipe_length, s1.len]
  refine ⟨by rw [backS_length, ← s2.len, wipe_length], fun i x q => ?_, fun i o q => ?_, fun p hp => ?_, fun i j p a b q1 q2 q3 q4 => ?_⟩
  · by_cases h : i ∈ vs
    · rw [backS_in hl2 h] at q
      obtain ⟨v, a, b⟩ := s1.d i x q
      exact ⟨v, a, Den.mono l x v b⟩
    · rw [backS_out h] at q
      have := s2.d i x q
      rw [wipe_out h] at this
      exact this
  · by_cases h : i ∈ vs
    · rw [backS_in hl2 h] at q
      exact absurd q (noOwn_at hn h o)
    · rw [backS_out h] at q
      have := s2.o i o q
      rw [wipe_out h] at this
      exact this
  · obtain ⟨a, c, fs, b⟩ := s1.an p (by rw [← l.2]; exact hp)
    have h : 0 ∉ vs := fun z => noOwn_at hn z _ b
    obtain ⟨a2, c2, fs2, b2⟩ := s2.an p hp
    rw [wipe_out h] at a2
    rw [backS_out h]
    exact ⟨a2, c2, fs2, b2⟩
  · have n1 : i ∉ vs := fun h => by rw [backS_in hl2 h] at q1; exact noOwn_at hn h a q1
    have n2 : j ∉ vs := fun h => by rw [backS_in hl2 h] at q2; exact noOwn_at hn h b q2
    rw [backS_out n1] at q1
    rw [backS_out n2] at q2
    rw [← wipe_out n1 (σ := σ)] at q3
    rw [← wipe_out n2 (σ := σ)] at q4
    exact s2.oi i j p a b q1 q2 q3 q4
theorem wipe_same {σ σ' : L2.St} {vs ws : List Nat} (h : Same (L2.wipe σ vs) σ' ws) (hw : ∀ i ∈ ws, i ∈ vs) : L2.wipe σ' vs = L2.wipe σ vs := by
  have hl : σ'.length = σ.length := by rw [h.1, wipe_length]
  refine List.ext_getElem? fun i => ?_
  by_cases hi : i ∈ vs
  · by_cases hlt : i < σ.length
    · rw [wipe_at hi hlt, wipe_at hi (by rw [hl]; exact hlt)]
    · rw [List.getElem?_eq_none (by rw [wipe_length, hl]; omega), List.getElem?_eq_none (by rw [wipe_length]; omega)]
  · rw [wipe_out hi, h.2 i (fun z => hi (hw i z))]
def W0 : WX := fun _ _ _ _ => False
def evLcF (vs : List Nat) (t : Tg) (rt : List S → List O → R Bool) (re : Ev) : D → List S → List O → R (List D) := fun x e G => R.quiet (match setTg t x e with
        | some e => (rt e G).bind fun k e G => if k then (re e G).toD.bind fun y e G => .ok [y] (wipeS e vs) G else .ok [] (wipeS e vs) G
        | none => .no)
def evLc (vs : List Nat) (ri : List S → List O → R Sr) (t : Tg) (rt : List S → List O → R Bool) (re : Ev) : Ev := fun e G => (ri e G).bind fun sr e1 G1 => if noOwn e1 vs then (match rdS sr e1 G1 with
    | some xs => (compD (rdS sr) (evLcF vs t rt re) xs.length 0 [] (wipeS e1 vs) G1).bind fun acc e2 G2 => .ok (.f (.lst acc)) (backS e1 e2 vs) G2
    | none => .no) else .no
theorem quiet_bind {α β : Type} {r : R α} {f : α → List S → List O → R β} {k : β → Wd → List S → List O → Hp → Prop} (h : OkR T Rs Wx m σ ((R.quiet r).bind f) k) : ∃ a e G, r = .ok a e G ∧ OkR T Rs Wx m σ (f a e G) k := by
  cases r with
  | ok a e G => exact ⟨a, e, G, rfl, h⟩
  | ex x e G => exact h.elim
  | no => exact h.elim
theorem bind_ok {α β : Type} {r : R α} {f : α → List S → List O → R β} {b : β} {e' : List S} {G' : List O} (h : r.bind f = .ok b e' G') : ∃ a e G, r = .ok a e G ∧ f a e G = .ok b e' G' := by
  cases r with
  | ok a e G => exact ⟨a, e, G, rfl, h⟩
  | ex x e G => cases h
  | no => cases h
theorem tLc_of {ri : List S → List O → R Sr} {t : Tg} {rt : List S → List O → R Bool} {re : Ev} {vs : List Nat} (hw : ∀ i ∈ t.slots, i ∈ vs) {σ : L2.St} {H : Hp} {Q : VK} (h : tE T Wx (evLc vs ri t rt re) σ H Q) :
    tLc (tJ T Wx ri) (tG T t) (tBo T W0 rt) (tD T W0 fun e G => (re e G).toD) vs σ H Q := by
  obtain ⟨Rs, m, G, e, g, s, h⟩ := h
  refine ⟨Rs, m, G, e, g, s, OkR.thn h fun sr m1 e1 G1 H1 l1 g1 s1 h1 => fun J wk D hD => ?_⟩
  cases hn : noOwn e1 vs with
  | false => rw [hn] at h1; exact h1.elim
  | true =>
    rw [hn, if_pos rfl] at h1
    cases q : rdS sr e1 G1 with
    | none => rw [q] at h1; exact h1.elim
    | some xs =>
      rw [q] at h1
      dsimp only at h1
      have hbs : ∀ j ∈ srB sr, (wipe σ vs)[j]? = σ[j]? := fun j hj => by
        obtain ⟨o, ho⟩ := srB_own q hj
        exact wipe_out fun z => noOwn_at hn z o ho
      have hF := g1.freeF hD
      have hr := g1.freeG hD
      have hR := g1.freeR hD
      have hO := s1.freeO hD
      have h0 : ∀ m', m1.le m' → m'.an = none ∨ 0 ∉ vs := fun m' l => by
        cases qa : m1.an with
        | none => exact .inl (by rw [l.2, qa])
        | some p =>
          obtain ⟨_, c, fs, b⟩ := s1.an p qa
          exact .inr fun z => noOwn_at hn z _ b
      refine ⟨fun i n H' => ∃ m' G' e' acc xs', m1.le m' ∧ RlG T (upd Rs D (.lst xs')) m' G' H' ∧ RlS T (upd Rs D (.lst xs')) m' e' (wipe σ vs) H' ∧ DenL T m' acc xs' ∧
        OkR T Rs Wx m' σ ((compD (rdS sr) (evLcF vs t rt re) n i acc e' G').bind fun acc e2 G2 => .ok (.f (.lst acc)) (backS e1 e2 vs) G2) fun w m' e' G' H' => ∀ v, DenW T Rs m' e' σ H' w v → Q v H',
        ⟨xs.length, m1, G1, wipeS e1 vs, [], [], Wd.le.refl _, g1.put hF hr (fun xs z => nomatch z), (s1.put hO).wipe (h0 m1 (Wd.le.refl _)), rfl, h1⟩, ?_⟩
      rintro i n H2 ⟨m2, G2, e2, acc, xs', l2, g2, s2, da, h2⟩
      have hD2 := g2.rs D (.lst xs') upd_same
      cases n with
      | zero =>
        unfold compD at h2
        cases q2 : rdS sr e2 G2 with
        | none => rw [q2] at h2; exact h2.elim
        | some ys =>
          rw [q2] at h2
          dsimp only at h2
          by_cases hl : ys.length = i
          · rw [if_pos hl] at h2
            refine .inl ⟨(wk _ m2 G2 H2 _ e2 i ys l2.1 hbs g2 s2 q2).1 hl, ?_⟩
            have ls : ∀ p o, Rs p = some o → upd Rs D (.lst xs') p = some o := fun p o z => by
              rw [upd_ne (fun y => by rw [y, hR] at z; cases z)]
              exact z
            have s3 := s1.backS (s2.less ls) l2 hn
            refine h2 m2 H2 (Wd.le.refl _) (g2.less ls) s3 _ ⟨D, rfl, hD2.2.1, hR, hD2.2.2.1, fun j o k z => ?_, xs', .inl hD2.1, da⟩
            -- no slot's own object
            have nj : j ∉ vs := fun y => by
              rw [backS_in (by rw [← s2.len, wipe_length, s1.len]) y] at k
              exact noOwn_at hn y o k
            rw [backS_out nj] at k
            obtain ⟨p', a1, _, a3, _⟩ := s2.o j o k
            rw [wipe_out nj, z] at a1
            cases a1
            rw [upd_same] at a3
            cases a3
          · rw [if_neg hl] at h2
            exact h2.elim
      | succ n =>
        unfold compD at h2
        cases q2 : rdS sr e2 G2 with
        | none => rw [q2] at h2; exact h2.elim
        | some ys =>
          rw [q2] at h2
          dsimp only at h2
          cases q3 : ys[i]? with
          | none => rw [q3] at h2; exact h2.elim
          | some x =>
            rw [q3] at h2
            dsimp only at h2
            by_cases hlen : acc.length < sLn
            · rw [if_pos hlen] at h2
              have h2' : OkR T Rs Wx m2 σ ((R.quiet (match setTg t x e2 with
                | some e => (rt e G2).bind fun k e G => if k then (re e G).toD.bind fun y e G => .ok [y] (wipeS e vs) G else .ok [] (wipeS e vs) G
                | none => .no)).bind fun o e' G' => (compD (rdS sr) (evLcF vs t rt re) n (i + 1) (acc ++ o) e' G').bind fun acc e2 G2 => .ok (.f (.lst acc)) (backS e1 e2 vs) G2) fun w m' e' G' H' => ∀ v, DenW T Rs m' e' σ H' w v → Q v H' := by
                have : ((evLcF vs t rt re x e2 G2).bind fun o e' G' => compD (rdS sr) (evLcF vs t rt re) n (i + 1) (acc ++ o) e' G').bind (fun acc e2 G2 => (R.ok (W.f (.lst acc)) (backS e1 e2 vs) G2 : R W)) = (evLcF vs t rt re x e2 G2).bind fun o e' G' => (compD (rdS sr) (evLcF vs t rt re) n (i + 1) (acc ++ o) e' G').bind fun acc e2 G2 => .ok (.f (.lst acc)) (backS e1 e2 vs) G2 := by
                  cases evLcF vs t rt re x e2 G2 <;> rfl
                rw [this] at h2
                exact h2
              obtain ⟨o, e5, G5, hb, h3⟩ := quiet_bind h2'
              obtain ⟨go, yl⟩ := (wk _ m2 G2 H2 _ e2 i ys l2.1 hbs g2 s2 q2).2 x q3
              refine .inr ⟨go, fun H' => ∃ m' G' e' acc xs', m1.le m' ∧ RlG T (upd Rs D (.lst xs')) m' G' H' ∧ RlS T (upd Rs D (.lst xs')) m' e' (wipe σ vs) H' ∧ DenL T m' acc xs' ∧
                OkR T Rs Wx m' σ ((compD (rdS sr) (evLcF vs t rt re) n (i + 1) acc e' G').bind fun acc e2 G2 => .ok (.f (.lst acc)) (backS e1 e2 vs) G2) fun w m' e' G' H' => ∀ v, DenW T Rs m' e' σ H' w v → Q v H', fun H' hN => ⟨n, Nat.lt_succ_self n, hN⟩, fun v H3 hy => ?_⟩
              obtain ⟨m3, l3, g3, s3, dn⟩ := yl v H3 hy
              cases q4 : setTg t x e2 with
              | none => rw [q4] at hb; cases hb
              | some e3 =>
                rw [q4] at hb
                dsimp only at hb
                refine ⟨_, m3, G2, e2, x, e3, g3, s3, dn, q4, fun σ4 s4 sm => ?_⟩
                have hws : wipe σ4 vs = wipe σ vs := wipe_same sm hw
                obtain ⟨k, e6, G6, ht, hb2⟩ := bind_ok hb
                refine ⟨hws, _, m3, G2, e3, g3, s4, ?_⟩
                rw [ht]
                intro m6 H6 l6 g6 s6
                cases k with
                | false =>
                  rw [if_neg Bool.false_ne_true]
                  rw [if_neg Bool.false_ne_true] at hb2
                  cases hb2
                  have s7 := s6.wipe (h0 m6 ((l2.trans l3).trans l6))
                  rw [hws] at s7
                  rw [List.append_nil] at h3
                  exact ⟨m6, _, _, acc, xs', (l2.trans l3).trans l6, g6, s7, DenL.mono (l3.trans l6) acc xs' da, OkR.le h3 (l3.trans l6)⟩
                | true =>
                  rw [if_pos rfl]
                  rw [if_pos rfl] at hb2
                  obtain ⟨y, e7, G7, hy2, hb3⟩ := bind_ok hb2
                  cases hb3
                  refine ⟨_, m6, G6, e6, g6, s6, ?_⟩
                  dsimp only
                  rw [hy2]
                  intro m7 H7 l7 g7 s7 yv dy
                  have hD7 := g7.rs D (.lst xs') upd_same
                  have le7 := ((l2.trans l3).trans l6).trans l7
                  refine ⟨xs', hD7.1, by rw [← da.length]; exact hlen, m7, _, _, acc ++ [y], xs' ++ [yv], le7, ?_, ?_, (DenL.mono ((l3.trans l6).trans l7) acc xs' da).append (DenL.one dy), OkR.le h3 ((l3.trans l6).trans l7)⟩
                  · have := g7.put (u := .lst (xs' ++ [yv])) hD7.2.1 hD7.2.2.1 (fun xs z => nomatch z)
                    rw [upd_upd] at this
                    exact this
                  · have hO7 : ∀ (i : Nat) (q : O), e7[i]? = some (.own q) → σ4[i]? ≠ some (some (.ref D)) := fun j o k z => by
                      obtain ⟨p', a1, _, a3, _⟩ := s7.o j o k
                      rw [z] at a1
                      cases a1
                      rw [upd_same] at a3
                      cases a3
                    have := (s7.put (u := .lst (xs' ++ [yv])) hO7).wipe (h0 m7 le7)
                    rw [hws, upd_upd] at this
                    exact this
            · rw [if_neg hlen] at h2
              exact h2.elim
structure PTs1 (X : Cx) (ifs : List Expr) (t : TT) : Prop where
  r : PTs X ifs t
theorem PTs.imp {ifs : List Expr} {t t' : TT} (h : PTs X ifs t) (i : ∀ σ H Q, t' σ H Q → t σ H Q) : PTs X ifs t' := ⟨fun pins s σ H Q I q => h.run pins s σ H Q I (i σ H Q q)⟩
theorem ts_nil : PTs X [] (tBo T Wx fun e G => .ok true e G) := PTs.imp pts_nil fun σ H Q ⟨Rs, m, G, e, g, s, h⟩ => h m H (Wd.le.refl _) g s
theorem ts_one {c : Expr} {rc : List S → List O → R Bool} (h : PT X c (tBo T Wx rc)) : PTs X [c] (tBo T Wx rc) := pts_one h
theorem x_lc {elt tg iter : Expr} {ifs : List Expr} {scope : Scope} {own : List (Str × Nat)} {pos : Pos} {ri : List S → List O → R Sr} {t : Tg} {rt : List S → List O → R Bool} {re : Ev} (hc : X.calm = true) (hN : X.N.Nodup) (hi : PI X tg iter (tJ T Wx ri)) (ok : BlkOk X.N X.env.scope scope own)
    (hg : ∀ (s : Shared) (H : Hp) (C : Addr) (cl : List (Str × Addr)) (fp : List Addr), PG (X.blk s H scope (compEnvC scope cl C X.env) fp) tg (tG T t)) (ht : ∀ (s : Shared) (H : Hp) (C : Addr) (cl : List (Str × Addr)) (fp : List Addr), PTs (X.blk s H scope (compEnvC scope cl C X.env) fp) ifs (tBo T W0 rt))
    (he : ∀ (s : Shared) (H : Hp) (C : Addr) (cl : List (Str × Addr)) (fp : List Addr), PE (X.blk s H scope (compEnvC scope cl C X.env) fp) elt (tE T W0 re)) (hw : ∀ i ∈ t.slots, i ∈ own.map (·.2)) (hs : ∀ x, foldedSetIterable iter X.env x = pure x) :
    PE X (.ListComp elt [⟨tg, iter, ifs, 0⟩] scope pos) (tE T Wx (evLc (own.map (·.2)) ri t rt re)) :=
  PE.imp (pe_lc hc hN hi ok hg ht (fun s H C cl fp => PE.imp (he s H C cl fp) fun _ _ _ => tE_of_tD) hs) fun σ H Q => tLc_of hw
end
end Mn
/-! Mn16: what changes objects: methods, items, fields; displays of dicts. -/
namespace Mn
open PySem PySem.Spec PyProof.Rows L2
section
variable {T : Tb} {Rs : Hp} {Wx : WX} {m m0 : Wd} {σ : L2.St} {G : List O} {e : List S} {H : Hp} {X : Cx}
/-- an object that may be changed -/
theorem own_at {w : W} {o o' : O} {v : V} {e' : List S} {G' : List O} (g : RlG T Rs m G H) (s : RlS T Rs m e σ H) (dw : DenS T m σ w v) (hr : rdO e G w = some o) (hu : upO e G w o' = some (e', G')) :
    ∃ p, v = .ref p ∧ DenO T m H false o p ∧ m.F p = none ∧ Rs p = none := by
  cases w with
  | d x =>
    cases x with
    | g n =>
      obtain ⟨p, rfl, hp⟩ := dw
      obtain ⟨h1, h2⟩ := g.g n p o hp hr
      refine ⟨p, rfl, h2, h1, ?_⟩
      cases q : Rs p with
      | none => rfl
      | some u => exact absurd (List.mem_of_getElem? hp) (g.rs p u q).2.2.1
    | _ => cases hu
  | f q => exact dw.elim
  | b i =>
    have h' : (match e[i]? with | some (.own o) => some o | _ => none) = some o := hr
    split at h'
    · rename_i h1
      cases h'
      obtain ⟨p, q1, q2, q3, _, q5⟩ := s.o i o h1
      have h2 : σ[i]? = some (some v) := dw
      rw [h2] at q1
      cases q1
      exact ⟨p, rfl, q5, q2, q3⟩
    · cases h'
  | k ds => cases hu
theorem up_ok {w : W} {o o' : O} {p : Addr} {u : HO} {e' : List S} {G' : List O} (g : RlG T Rs m G H) (s : RlS T Rs m e σ H) (dw : DenS T m σ w (.ref p)) (hr : rdO e G w = some o) (hu : upO e G w o' = some (e', G')) (hF : m.F p = none) (hR : Rs p = none)
    (dn : DenO T m (upd H p u) false o' p) (hk : ∀ c fs, o = .ins c fs → ∃ c' fs', o' = .ins c' fs') : RlG T Rs m G' (upd H p u) ∧ RlS T Rs m e' σ (upd H p u) := by
  have fz : ∀ q o, m.F q = some o → upd H p u q = some o := fun q o h => by
    rw [upd_ne (fun z => by rw [z, hF] at h; cases h)]
    exact g.fz q o h
  have rs : ∀ q o, Rs q = some o → upd H p u q = some o ∧ m.F q = none ∧ q ∉ m.r ∧ ∀ xs, o ≠ .tup xs := fun q o h => by
    rw [upd_ne (fun z => by rw [z, hR] at h; cases h)]
    exact g.rs q o h
  cases w with
  | d x =>
    cases x with
    | g n =>
      cases hu
      have hp : m.r[n]? = some p := by obtain ⟨p', e1, hp⟩ := dw; cases e1; exact hp
      have nl : n < G.length := (List.getElem?_eq_some_iff.mp hr).1
      refine ⟨⟨fz, rs, by rw [List.length_set]; exact g.gl, g.gi, fun k q o2 h1 h2 => ?_⟩, s.len, s.d, fun i o2 h => ?_, s.an, s.oi⟩
      · by_cases ek : n = k
        · subst ek
          rw [hp] at h1
          cases h1
          rw [List.getElem?_set_self nl] at h2
          cases h2
          exact ⟨hF, dn⟩
        · rw [List.getElem?_set_ne ek] at h2
          have ne : q ≠ p := fun z => by
            subst z
            exact ek ((List.getElem?_inj (List.getElem?_eq_some_iff.mp hp).1 g.gi).mp (by rw [hp, h1]))
          exact ⟨(g.g k q o2 h1 h2).1, (g.g k q o2 h1 h2).2.at (upd_ne ne)⟩
      · obtain ⟨p', a1, a2, a3, a4, a5⟩ := s.o i o2 h
        have ne : p' ≠ p := fun z => a4 (z ▸ List.mem_of_getElem? hp)
        exact ⟨p', a1, a2, a3, a4, a5.at (upd_ne ne)⟩
    | _ => cases hu
  | f q => exact dw.elim
  | b i =>
    cases hu
    have h' : (match e[i]? with | some (.own o) => some o | _ => none) = some o := hr
    split at h'
    · rename_i h1
      cases h'
      have hi := (List.getElem?_eq_some_iff.mp h1).1
      have h2 : σ[i]? = some (some (.ref p)) := dw
      obtain ⟨p1, q1, _, _, q4, _⟩ := s.o i o h1
      rw [h2] at q1
      cases q1
      refine ⟨⟨fz, rs, g.gl, g.gi, fun k q o2 h3 h4 => ?_⟩, by rw [List.length_set]; exact s.len, fun j y k => ?_, fun j o2 k => ?_, fun p' hp => ?_, fun j k p' a b z1 z2 z3 z4 => ?_⟩
      · have ne : q ≠ p := fun z => q4 (z ▸ List.mem_of_getElem? h3)
        exact ⟨(g.g k q o2 h3 h4).1, (g.g k q o2 h3 h4).2.at (upd_ne ne)⟩
      · have n1 : i ≠ j := fun z => by subst z; rw [List.getElem?_set_self hi] at k; cases k
        rw [List.getElem?_set_ne n1] at k
        exact s.d j y k
      · by_cases ej : i = j
        · subst ej
          rw [List.getElem?_set_self hi] at k
          cases k
          exact ⟨p, h2, hF, hR, q4, dn⟩
        · rw [List.getElem?_set_ne ej] at k
          obtain ⟨p', a1, a2, a3, a4, a5⟩ := s.o j o2 k
          have ne : p' ≠ p := fun z => by subst z; exact ej (s.oi i j p' o o2 h1 k h2 a1)
          exact ⟨p', a1, a2, a3, a4, a5.at (upd_ne ne)⟩
      · obtain ⟨a1, c, fs, a2⟩ := s.an p' hp
        refine ⟨a1, ?_⟩
        by_cases e0 : i = 0
        · subst e0
          rw [h1] at a2
          cases a2
          obtain ⟨c', fs', e2⟩ := hk c fs rfl
          rw [e2]
          exact ⟨c', fs', List.getElem?_set_self hi⟩
        · rw [List.getElem?_set_ne e0]
          exact ⟨c, fs, a2⟩
      · have un : ∀ l z, (e.set i (S.own o'))[l]? = some (S.own z) → ∃ z', e[l]? = some (S.own z') := fun l z y => by
          by_cases el : i = l
          · subst el; exact ⟨_, h1⟩
          · rw [List.getElem?_set_ne el] at y; exact ⟨_, y⟩
        obtain ⟨a', k1⟩ := un j a z1
        obtain ⟨b', k2⟩ := un k b z2
        exact s.oi j k p' a' b' k1 k2 z3 z4
    · cases h'
  | k ds => cases hu
/-! ### methods -/
def rMM (T : Tb) (mm : MM) : V → List V → Hp → VK → Prop := fun x vs H Q => ∃ Rs m G e σ w ds, RlG T Rs m G H ∧ RlS T Rs m e σ H ∧ DenS T m σ w x ∧ DenL T m ds vs ∧ OkR T Rs W0 m σ (mmop mm e G w ds) fun r m' e' G' H' => ∀ v, DenW T Rs m' e' σ H' r v → Q v H'
theorem MtR.imp {id : String} {r r' : V → List V → Hp → VK → Prop} (h : MtR X id r) (i : ∀ x xs H Q, r' x xs H Q → r x xs H Q) : MtR X id r' := fun pins s σ H x xs v us Q I rx rv q => h pins s σ H x xs v us Q I rx rv (i x xs H Q q)
theorem mmop_at {mm : MM} {w : W} {ds : List D} {k : W → Wd → List S → List O → Hp → Prop} (h : OkR T Rs W0 m σ (mmop mm e G w ds) k) : ∃ o r o', rdO e G w = some o ∧ mmO mm o ds e G = some (r, o') ∧ ((mmP mm = true ∧ OkR T Rs W0 m σ (.ok r e G) k) ∨ (mmP mm = false ∧ ∃ e' G', upO e G w o' = some (e', G') ∧ OkR T Rs W0 m σ (.ok r e' G') k)) := by
  unfold mmop at h
  cases q : rdO e G w with
  | none => rw [q] at h; exact h.elim
  | some o =>
    rw [q] at h
    dsimp only at h
    cases q2 : mmO mm o ds e G with
    | none => rw [q2] at h; exact h.elim
    | some z =>
      obtain ⟨r, o'⟩ := z
      rw [q2] at h
      dsimp only at h
      cases q3 : mmP mm with
      | true => rw [q3] at h; exact ⟨o, r, o', rfl, q2, .inl ⟨rfl, h⟩⟩
      | false =>
        rw [q3] at h
        simp only [Bool.false_eq_true, if_false] at h
        cases q4 : upO e G w o' with
        | none => rw [q4] at h; exact h.elim
        | some y =>
          obtain ⟨e', G'⟩ := y
          rw [q4] at h
          exact ⟨o, r, o', rfl, q2, .inr ⟨rfl, e', G', q4, h⟩⟩
theorem lst_at {ds : List D} {p : Addr} (h : DenO T m H false (.lst ds) p) : ∃ xs, H p = some (.lst xs) ∧ DenL T m ds xs := by
  obtain ⟨xs, y, l⟩ := h
  exact ⟨xs, y.elim id (fun z => nomatch z.1), l⟩
theorem m_append : MtR X "list.append" (rMM T .append) := by
  refine MtR.imp mt_append fun x vs H Q ⟨Rs, m, G, e, σ, w, ds, g, s, dw, dl, h⟩ => ?_
  obtain ⟨o, r, o', h1, h2, h3⟩ := mmop_at h
  rcases h3 with ⟨z, _⟩ | ⟨_, e', G', h4, h5⟩
  · cases z
  cases o with
  | lst xs =>
    match ds, h2, dl with
    | [d], h2, dl =>
      have h2' : (if xs.length < sLn then some (W.d .non, O.lst (xs ++ [d])) else none) = some (r, o') := h2
      split at h2'
      · rename_i hz
        cases h2'
        obtain ⟨p, rfl, dno, hF, hR⟩ := own_at g s dw h1 h4
        obtain ⟨ys, hH, dly⟩ := lst_at dno
        obtain ⟨y, vs', rfl, dy, e0⟩ := dl
        have ev : vs' = [] := e0
        subst ev
        obtain ⟨g2, s2⟩ := up_ok (u := .lst (ys ++ [y])) g s dw h1 h4 hF hR ⟨_, .inl upd_same, dly.append (DenL.one dy)⟩ (fun _ _ z => by cases z)
        exact ⟨p, ys, y, rfl, rfl, hH, by rw [← dly.length]; exact hz, h5 m _ (Wd.le.refl _) g2 s2 _ rfl⟩
      · cases h2'
    | [], h2, _ => cases h2
    | _ :: _ :: _, h2, _ => cases h2
  | _ => cases ds <;> cases h2
theorem m_pop : MtR X "list.pop" (rMM T .pop) := by
  refine MtR.imp mt_pop fun x vs H Q ⟨Rs, m, G, e, σ, w, ds, g, s, dw, dl, h⟩ => ?_
  obtain ⟨o, r, o', h1, h2, h3⟩ := mmop_at h
  rcases h3 with ⟨z, _⟩ | ⟨_, e', G', h4, h5⟩
  · cases z
  cases o with
  | lst xs =>
    match ds, h2, dl with
    | [], h2, dl =>
      have h2' : (xs[xs.length - 1]?).map (fun y => (W.d y, O.lst xs.dropLast)) = some (r, o') := h2
      cases q : xs[xs.length - 1]? with
      | none => rw [q] at h2'; cases h2'
      | some d =>
        rw [q] at h2'
        cases h2'
        obtain ⟨p, rfl, dno, hF, hR⟩ := own_at g s dw h1 h4
        obtain ⟨ys, hH, dly⟩ := lst_at dno
        have ev : vs = [] := dl
        subst ev
        obtain ⟨y, hy, dy⟩ := dly.get q
        obtain ⟨g2, s2⟩ := up_ok (u := .lst ys.dropLast) g s dw h1 h4 hF hR ⟨_, .inl upd_same, dly.dropLast⟩ (fun _ _ z => by cases z)
        exact ⟨p, ys, y, rfl, rfl, hH, by rw [← dly.length]; exact hy, h5 m _ (Wd.le.refl _) g2 s2 _ dy⟩
    | _ :: _, h2, _ => cases h2
  | _ => cases ds <;> cases h2
theorem m_popAt : MtR X "list.pop" (rMM T .popAt) := by
  refine MtR.imp mt_popAt fun x vs H Q ⟨Rs, m, G, e, σ, w, ds, g, s, dw, dl, h⟩ => ?_
  obtain ⟨o, r, o', h1, h2, h3⟩ := mmop_at h
  rcases h3 with ⟨z, _⟩ | ⟨_, e', G', h4, h5⟩
  · cases z
  cases o with
  | lst xs =>
    match ds, h2, dl with
    | [.int i], h2, dl =>
      have h2' : (if decide (-(2 ^ 63) ≤ i) && decide (i < 2 ^ 63) then (L2.ixN xs.length i).bind fun k => (xs[k]?).map fun y => (W.d y, O.lst (xs.eraseIdx k)) else none) = some (r, o') := h2
      cases hbb : (decide (-(2 ^ 63) ≤ i) && decide (i < 2 ^ 63)) with
      | false => rw [hbb] at h2'; cases h2'
      | true =>
      rw [hbb, if_pos rfl] at h2'
      simp only [Bool.and_eq_true, decide_eq_true_eq] at hbb
      cases q0 : L2.ixN xs.length i with
      | none => rw [q0] at h2'; cases h2'
      | some k =>
        rw [q0] at h2'
        dsimp only [Option.bind] at h2'
        cases q : xs[k]? with
        | none => rw [q] at h2'; cases h2'
        | some d =>
          rw [q] at h2'
          cases h2'
          obtain ⟨p, rfl, dno, hF, hR⟩ := own_at g s dw h1 h4
          obtain ⟨ys, hH, dly⟩ := lst_at dno
          obtain ⟨v0, vs', rfl, dy0, e0⟩ := dl
          have ev : vs' = [] := e0
          have ev0 : v0 = .int i := dy0
          subst ev ev0
          obtain ⟨y, hy, dy⟩ := dly.get q
          obtain ⟨g2, s2⟩ := up_ok (u := .lst (ys.eraseIdx k)) g s dw h1 h4 hF hR ⟨_, .inl upd_same, dly.eraseIdx k⟩ (fun _ _ z => by cases z)
          obtain ⟨b3, _⟩ := ixN_seq q0
          exact ⟨p, ys, i, k, y, rfl, rfl, hH, hbb.1, hbb.2, by rw [← dly.length]; exact b3, hy, h5 m _ (Wd.le.refl _) g2 s2 _ dy⟩
      
    | [], h2, _ => cases h2
    | a :: _ :: _, h2, _ => cases a <;> cases h2
    | [.non], h2, _ => cases h2
    | [.bl _], h2, _ => cases h2
    | [.str _], h2, _ => cases h2
    | [.tup _], h2, _ => cases h2
    | [.obj _], h2, _ => cases h2
    | [.g _], h2, _ => cases h2
    | [.scr _], h2, _ => cases h2
  | _ =>
    match ds, h2 with
    | [], h2 => cases h2
    | [a], h2 => cases a <;> cases h2
    | a :: _ :: _, h2 => cases a <;> cases h2
def evMM (mm : MM) (ra : Ev) (rs : List S → List O → R (List D)) : Ev := fun e G => (ra e G).soft.bind fun w e G => if mmTy mm (rdO e G w) then (rs e G).bind fun xs e G => mmop mm e G w xs else .no
def mmName : MM → String
  | .dget => "dict"
  | .dget2 => "dict"
  | _ => "list"
theorem mmTy_lst {mm : MM} {o : Option O} (h : mmTy mm o = true) (hn : mmDict mm = false) : ∃ xs, o = some (.lst xs) := by
  cases o with
  | none => cases mm <;> cases h
  | some o => cases o <;> first | exact ⟨_, rfl⟩ | (cases mm <;> first | (cases h; done) | (cases hn; done))
theorem tMM {mm : MM} {ra : Ev} {rs : List S → List O → R (List D)} (hn : mmDict mm = false) {σ : L2.St} {H : Hp} {Q : VK} (h : tE T Wx (evMM mm ra rs) σ H Q) : tBM T.K "list" (rMM T mm) (tW T Wx fun e G => (ra e G).soft) (tDs T Wx rs) σ H Q := by
  obtain ⟨Rs, m, G, e, g, s, h⟩ := h
  refine ⟨Rs, m, G, e, g, s, OkR.thn h fun w m1 e1 G1 H1 l1 g1 s1 h1 v1 dw => ?_⟩
  cases ht : mmTy mm (rdO e1 G1 w) with
  | false => rw [ht] at h1; exact h1.elim
  | true =>
    rw [ht, if_pos rfl] at h1
    obtain ⟨xs, ho⟩ := mmTy_lst ht hn
    obtain ⟨p, rfl, dno⟩ := rdO_at g1 s1 dw.toW ho
    obtain ⟨ys, rd, _⟩ := rd_lst dno
    refine ⟨.inl ⟨rfl, ys, .inl rd⟩, Rs, m1, G1, e1, g1, s1, OkR.thn h1 fun ds m2 e2 G2 H2 l2 g2 s2 h2 vs dl => ?_⟩
    refine ⟨Rs, m2, G2, e2, σ, w, ds, g2, s2, dw.mono l2, dl, ?_⟩
    -- no error comes of a method
    unfold mmop at h2 ⊢
    cases q : rdO e2 G2 w with
    | none => rw [q] at h2; exact h2.elim
    | some o =>
      rw [q] at h2
      dsimp only at h2 ⊢
      cases q2 : mmO mm o ds e2 G2 with
      | none => rw [q2] at h2; exact h2.elim
      | some z =>
        obtain ⟨r, o'⟩ := z
        rw [q2] at h2
        dsimp only at h2 ⊢
        cases q3 : mmP mm with
        | true => rw [q3] at h2; exact h2
        | false =>
          rw [q3] at h2
          simp only [Bool.false_eq_true, if_false] at h2 ⊢
          cases q4 : upO e2 G2 w o' with
          | none => rw [q4] at h2; exact h2.elim
          | some y => rw [q4] at h2; exact h2
theorem x_mm {mm : MM} {id : String} {name : Str} {o a : Expr} {es : List Expr} {apos cpos : Pos} {ra : Ev} {rs : List S → List O → R (List D)} (hK : X.K = T.K) (hn : mmDict mm = false) (slot : Slot "list" name id) (hty : typeOf (.builtin id) = pure (.type "method_descriptor")) (hm : MtR X id (rMM T mm)) (ho : PE X o (tE T Wx ra)) (ha : PA X (a :: es) (tDs T Wx rs))
    (hbase : attributeBase o name X.env (eval o X.env) = eval o X.env)
    (hfew : ((backTo cpos (starEach (a :: es) X.env)).all (fun x => !x.1) && (backToKw cpos (keywordEach [] X.env)).all (fun x => x.1.isSome)
      && decide ((a :: es).length + ([] : List Keyword).length + (if ([] : List Keyword).isEmpty then 0 else 1) < 30)) = true)
    (hline : (apos.endLine == cpos.line) = true) (hs : starEach (a :: es) X.env = (false, eval a X.env) :: starEach es X.env) (hplain : (backTo cpos (starEach es X.env)).any (·.1) = false) :
    PE X (.Call (.Attribute o name apos) (a :: es) [] cpos) (tE T Wx (evMM mm ra rs)) :=
  PE.imp (pe_bm F.plainAttrs_list slot hty hm (PE.imp ho fun _ _ _ => tE_of_tW) ha hbase hfew hline hs hplain) fun σ H Q h => by rw [hK]; exact tMM hn h
theorem x_mm0 {mm : MM} {id : String} {name : Str} {o : Expr} {apos cpos : Pos} {ra : Ev} {rs : List S → List O → R (List D)} (hK : X.K = T.K) (hn : mmDict mm = false) (slot : Slot "list" name id) (hty : typeOf (.builtin id) = pure (.type "method_descriptor")) (hm : MtR X id (rMM T mm)) (ho : PE X o (tE T Wx ra)) (hrs : rs = fun e G => .ok [] e G)
    (hbase : attributeBase o name X.env (eval o X.env) = eval o X.env) (hline : (apos.endLine == cpos.line) = true) :
    PE X (.Call (.Attribute o name apos) [] [] cpos) (tE T Wx (evMM mm ra rs)) :=
  PE.imp (pe_bm0 F.plainAttrs_list slot hty hm (PE.imp ho fun _ _ _ => tE_of_tW) hbase hline) fun σ H Q h => by
    rw [hK]
    subst hrs
    obtain ⟨Rs, m, G, e, g, s, h⟩ := tMM hn h
    exact ⟨Rs, m, G, e, g, s, OkR.imp h fun w m1 e1 G1 H1 l1 g1 s1 h1 v dv => ⟨(h1 v dv).1, by
      obtain ⟨_, Rs, m, G, e, g, s, h⟩ := h1 v dv
      exact h m H1 (Wd.le.refl _) g s [] rfl⟩⟩
end
end Mn
/-! Mn17: o[i] = v, o.f = v, displays of dicts. -/
namespace Mn
open PySem PySem.Spec PyProof.Rows L2
section
variable {T : Tb} {Rs : Hp} {Wx : WX} {m m0 : Wd} {σ : L2.St} {G : List O} {e : List S} {H : Hp} {X : Cx}
theorem eqv_at {a : D} {q k : Key} (h : Den T m a (kV q)) : D.eqv a (keyD k) = decide (q = k) := by
  rw [den_key h, eqv_key]
theorem any_look {k : Key} : ∀ {kvs : List (D × D)} {ys : List (Key × V)}, DenK T m kvs ys → (ys.any fun kv => decide (kv.1 = k)) = (lookD kvs (keyD k)).isSome
  | [], ys, h => by
    have e : ys = [] := h
    subst e
    rfl
  | (a, d) :: kvs, ys, ⟨v, vs, e, ⟨h1, h2⟩, l⟩ => by
    subst e
    rw [List.any_cons, any_look l]
    show _ = (if D.eqv a (keyD k) then some d else lookD kvs (keyD k)).isSome
    rw [eqv_at h1]
    cases hd : decide (v.1 = k) with
    | true => simp
    | false => simp
theorem set_look {k : Key} {x : D} {v : V} (dx : Den T m x v) : ∀ {kvs : List (D × D)} {ys : List (Key × V)}, DenK T m kvs ys → DenK T m (setD kvs (keyD k) x) (ys.map fun kv => if kv.1 = k then (kv.1, v) else kv)
  | [], ys, h => by
    have e : ys = [] := h
    subst e
    exact rfl
  | (a, d) :: kvs, ys, ⟨u, vs, e, ⟨h1, h2⟩, l⟩ => by
    subst e
    show DenK T m (if D.eqv a (keyD k) then (a, x) :: setD kvs (keyD k) x else (a, d) :: setD kvs (keyD k) x) _
    rw [eqv_at h1, List.map_cons]
    by_cases hd : u.1 = k
    · rw [decide_eq_true hd, if_pos rfl, if_pos hd]
      exact ⟨_, _, rfl, ⟨h1, dx⟩, set_look dx l⟩
    · rw [decide_eq_false hd, if_neg Bool.false_ne_true, if_neg hd]
      exact ⟨_, _, rfl, ⟨h1, h2⟩, set_look dx l⟩
theorem DenK.append : ∀ {a b : List (D × D)} {x y : List (Key × V)}, DenK T m a x → DenK T m b y → DenK T m (a ++ b) (x ++ y)
  | [], _, x, _, h, k => by
    have e : x = [] := h
    subst e
    exact k
  | d :: a, b, x, y, ⟨v, vs, e, h, l⟩, k => by
    subst e
    exact ⟨v, vs ++ y, rfl, h, DenK.append l k⟩
theorem put_den {k : Key} {x : D} {v : V} (dx : Den T m x v) {kvs : List (D × D)} {ys : List (Key × V)} (h : DenK T m kvs ys) : DenK T m (putD kvs (keyD k) x) (putK ys k v) := by
  unfold putD putK
  rw [any_look h]
  cases q : (lookD kvs (keyD k)).isSome with
  | true => exact set_look dx h
  | false => exact h.append ⟨_, _, rfl, ⟨by cases k <;> exact rfl, dx⟩, rfl⟩
theorem any_lookT {k : List Key} : ∀ {kvs : List (D × D)} {ys : List (List Key × V)}, DenT T m kvs ys → (ys.any fun kv => decide (kv.1 = k)) = (lookD kvs (.tup (k.map keyD))).isSome
  | [], ys, h => by
    have e : ys = [] := h
    subst e
    rfl
  | (.tup ds, d) :: kvs, ys, ⟨v, vs, e, ⟨h1, h2⟩, l⟩ => by
    subst e
    rw [List.any_cons, any_lookT l]
    show _ = (if D.eqv (.tup ds) (.tup (k.map keyD)) then some d else lookD kvs (.tup (k.map keyD))).isSome
    have e1 : D.eqv (.tup ds) (.tup (k.map keyD)) = decide (v.1 = k) := by
      show D.eqvL ds (k.map keyD) = _
      rw [denL_keys h1, eqvL_keys]
    rw [e1]
    cases hd : decide (v.1 = k) with
    | true => simp
    | false => simp
  | (.non, d) :: kvs, ys, ⟨v, vs, e, h, l⟩ => h.elim
  | (.bl _, d) :: kvs, ys, ⟨v, vs, e, h, l⟩ => h.elim
  | (.int _, d) :: kvs, ys, ⟨v, vs, e, h, l⟩ => h.elim
  | (.str _, d) :: kvs, ys, ⟨v, vs, e, h, l⟩ => h.elim
  | (.obj _, d) :: kvs, ys, ⟨v, vs, e, h, l⟩ => h.elim
  | (.g _, d) :: kvs, ys, ⟨v, vs, e, h, l⟩ => h.elim
  | (.scr _, d) :: kvs, ys, ⟨v, vs, e, h, l⟩ => h.elim
theorem set_lookT {k : List Key} {x : D} {v : V} (dx : Den T m x v) : ∀ {kvs : List (D × D)} {ys : List (List Key × V)}, DenT T m kvs ys → DenT T m (setD kvs (.tup (k.map keyD)) x) (ys.map fun kv => if kv.1 = k then (kv.1, v) else kv)
  | [], ys, h => by
    have e : ys = [] := h
    subst e
    exact rfl
  | (.tup ds, d) :: kvs, ys, ⟨u, vs, e, ⟨h1, h2⟩, l⟩ => by
    subst e
    show DenT T m (if D.eqv (.tup ds) (.tup (k.map keyD)) then (.tup ds, x) :: setD kvs (.tup (k.map keyD)) x else (.tup ds, d) :: setD kvs (.tup (k.map keyD)) x) _
    have e1 : D.eqv (.tup ds) (.tup (k.map keyD)) = decide (u.1 = k) := by
      show D.eqvL ds (k.map keyD) = _
      rw [denL_keys h1, eqvL_keys]
    rw [e1, List.map_cons]
    by_cases hd : u.1 = k
    · rw [decide_eq_true hd, if_pos rfl, if_pos hd]
      exact ⟨_, _, rfl, ⟨h1, dx⟩, set_lookT dx l⟩
    · rw [decide_eq_false hd, if_neg Bool.false_ne_true, if_neg hd]
      exact ⟨_, _, rfl, ⟨h1, h2⟩, set_lookT dx l⟩
  | (.non, d) :: kvs, ys, ⟨v, vs, e, h, l⟩ => h.elim
  | (.bl _, d) :: kvs, ys, ⟨v, vs, e, h, l⟩ => h.elim
  | (.int _, d) :: kvs, ys, ⟨v, vs, e, h, l⟩ => h.elim
  | (.str _, d) :: kvs, ys, ⟨v, vs, e, h, l⟩ => h.elim
  | (.obj _, d) :: kvs, ys, ⟨v, vs, e, h, l⟩ => h.elim
  | (.g _, d) :: kvs, ys, ⟨v, vs, e, h, l⟩ => h.elim
  | (.scr _, d) :: kvs, ys, ⟨v, vs, e, h, l⟩ => h.elim
theorem DenT.append : ∀ {a b : List (D × D)} {x y : List (List Key × V)}, DenT T m a x → DenT T m b y → DenT T m (a ++ b) (x ++ y)
  | [], _, x, _, h, k => by
    have e : x = [] := h
    subst e
    exact k
  | d :: a, b, x, y, ⟨v, vs, e, h, l⟩, k => by
    subst e
    exact ⟨v, vs ++ y, rfl, h, DenT.append l k⟩
theorem keys_den : ∀ k : List Key, DenL T m (k.map keyD) (k.map kV)
  | [] => rfl
  | a :: k => ⟨_, _, rfl, by cases a <;> exact rfl, keys_den k⟩
theorem put_denT {k : List Key} {x : D} {v : V} (dx : Den T m x v) {kvs : List (D × D)} {ys : List (List Key × V)} (h : DenT T m kvs ys) : DenT T m (putD kvs (.tup (k.map keyD)) x) (putK ys k v) := by
  unfold putD putK
  rw [any_lookT h]
  cases q : (lookD kvs (.tup (k.map keyD))).isSome with
  | true => exact set_lookT dx h
  | false => exact h.append ⟨_, _, rfl, ⟨keys_den k, dx⟩, rfl⟩
/-- d[y] = v -/
theorem wrK_at {o o' : O} {p : Addr} {a x : D} {y v : V} (fz : ∀ p o, m.F p = some o → H p = some o) (dn : DenO T m H false o p) (da : Den T m a y) (dx : Den T m x v) (h : wrK o a x = some o') :
    ∃ u, DPut H p y v (upd H p u) ∧ (∀ H2 : Hp, H2 p = some u → DenO T m H2 false o' p) ∧ (∀ c fs, o ≠ .ins c fs) := by
  cases o with
  | dK kvs =>
    have h' : (if isK a && decide (kvs.length < sLn) then some (O.dK (putD kvs a x)) else none) = some o' := h
    cases hb : (isK a && decide (kvs.length < sLn)) with
    | false => rw [hb] at h'; cases h'
    | true =>
      rw [hb] at h'
      cases h'
      obtain ⟨hk, hl⟩ := Bool.and_eq_true_iff.mp hb
      obtain ⟨k, rfl⟩ := isK_key hk
      obtain ⟨ys, hH, dk⟩ := dn
      refine ⟨.dK (putK ys k v), .inl ⟨ys, k, hH, key_den da, by rw [← dk.length]; exact of_decide_eq_true hl, rfl⟩, fun H2 h2 => ⟨_, h2, put_den dx dk⟩, fun _ _ z => by cases z⟩
  | dT kvs =>
    have h' : (if isT a && decide (kvs.length < sLn) then some (O.dT (putD kvs a x)) else none) = some o' := h
    cases hb : (isT a && decide (kvs.length < sLn)) with
    | false => rw [hb] at h'; cases h'
    | true =>
      rw [hb] at h'
      cases h'
      obtain ⟨hk, hl⟩ := Bool.and_eq_true_iff.mp hb
      cases a with
      | tup ds =>
        obtain ⟨b, xs, rfl, hf, dl⟩ := da
        obtain ⟨ks, rfl, rfl⟩ := isT_keys hk dl
        obtain ⟨ys, hH, dk⟩ := dn
        refine ⟨.dT (putK ys ks v), .inr ⟨ys, ks, b, hH, rfl, fz _ _ hf, by rw [← dk.length]; exact of_decide_eq_true hl, rfl⟩, fun H2 h2 => ⟨_, h2, put_denT dx dk⟩, fun _ _ z => by cases z⟩
      | _ => cases hk
  | _ => cases h
theorem PSet.or {r r' : TSet} (h : PSet X r) (h' : PSet X r') : PSet X (fun o i v H Q => r o i v H Q ∨ r' o i v H Q) := by
  intro pins s σ H o i v ov iv u Q I ro ri rv q
  rcases q with q | q
  · exact h pins s σ H o i v ov iv u Q I ro ri rv q
  · exact h' pins s σ H o i v ov iv u Q I ro ri rv q
def evSeto (rt ri rv : Ev) : EvS := fun e G => (rv e G).toD.st fun x e G => (rt e G).soft.st fun w e G => (ri e G).toD.st fun y e G => (match rdO e G w with
    | some (.lst xs) => (match y with
      | .int i => (match ixN xs.length i with
        | some k => (match upO e G w (.lst (xs.set k x)) with | some (e, G) => .nx e G | none => .no)
        | none => .no)
      | _ => .no)
    | some o => (match wrK o y x with
      | some o' => (match upO e G w o' with | some (e, G) => .nx e G | none => .no)
      | none => .no)
    | none => .no)
theorem s_seto {o i v : Expr} {p pos : Pos} {rt ri rv : Ev} (hu : X.A.units + 64 < cLine) (ho : PE X o (tE T Wx rt)) (hi : PE X i (tE T Wx ri)) (hv : PE X v (tE T Wx rv))
    (ha : ∀ v, assign (.Subscript o i p) X.env v = (do
      let ov ← holding [v] (eval o X.env)
      let iv ← holding [v, ov] (eval i X.env)
      standAt p
      holding [v, ov, iv] (setItem ov iv v)
      release [v, ov, iv] []))
    (hs : swapsWithSole [.Subscript o i p] v pos.line X.env = pure false) (hw : swappedStores [.Subscript o i p] v X.env = pure none) (h1 : (assignEach [.Subscript o i p] X.env).map (·.2) = [assign (.Subscript o i p) X.env]) :
    PS X (.Assign [.Subscript o i p] v pos) (tS T Wx (evSeto rt ri rv)) := by
  refine PS.imp (ps_asg (PE.imp hv fun _ _ _ => tE_of_tD) (pg_sub (PE.imp ho fun _ _ _ => tE_of_tW) (PE.imp hi fun _ _ _ => tE_of_tD) (PSet.or set_list (set_dict (by omega))) ha) hs hw h1) fun D σ H ⟨Rs, m, G, e, g, s, h⟩ => ?_
  refine ⟨Rs, m, G, e, g, s, OkR.st h fun x m1 e1 G1 H1 l1 g1 s1 h1 v1 dn1 => ⟨Rs, m1, G1, e1, g1, s1, OkR.st h1 fun w m2 e2 G2 H2 l2 g2 s2 h2 v2 dw => ⟨Rs, m2, G2, e2, g2, s2, OkR.st h2 fun y m3 e3 G3 H3 l3 g3 s3 h3 v3 dn3 => ?_⟩⟩⟩
  have dx := Den.mono (l2.trans l3) x v1 dn1
  have dw3 := dw.mono l3
  have gen : ∀ o, rdO e3 G3 w = some o → OkS T Rs Wx m3 (match wrK o y x with
      | some o' => (match upO e3 G3 w o' with | some (e, G) => .nx e G | none => .no)
      | none => .no) D → rSetD v2 v3 v1 H3 (fun H4 => D.nx σ H4) := fun o ho h => by
    cases q1 : wrK o y x with
    | none => rw [q1] at h; exact h.elim
    | some o' =>
      rw [q1] at h
      dsimp only at h
      cases q2 : upO e3 G3 w o' with
      | none => rw [q2] at h; exact h.elim
      | some z =>
        obtain ⟨e4, G4⟩ := z
        rw [q2] at h
        obtain ⟨p', rfl, dno, hF, hR⟩ := own_at g3 s3 dw3 ho q2
        obtain ⟨u, dp, dd, ni⟩ := wrK_at g3.fz dno dn3 dx q1
        obtain ⟨g4, s4⟩ := up_ok (u := u) g3 s3 dw3 ho q2 hF hR (dd _ upd_same) (fun c fs z => absurd z (ni c fs))
        exact ⟨p', _, rfl, dp, h σ m3 _ (Wd.le.refl _) g4 s4⟩
  cases ho : rdO e3 G3 w with
  | none => rw [ho] at h3; exact h3.elim
  | some o =>
    rw [ho] at h3
    cases o with
    | lst xs =>
      dsimp only at h3
      cases y with
      | int j =>
        dsimp only at h3
        cases q0 : ixN xs.length j with
        | none => rw [q0] at h3; exact h3.elim
        | some k =>
          rw [q0] at h3
          dsimp only at h3
          cases q2 : upO e3 G3 w (.lst (xs.set k x)) with
          | none => rw [q2] at h3; exact h3.elim
          | some z =>
            obtain ⟨e4, G4⟩ := z
            rw [q2] at h3
            obtain ⟨p', rfl, dno, hF, hR⟩ := own_at g3 s3 dw3 ho q2
            obtain ⟨ys, hH, dly⟩ := lst_at dno
            obtain ⟨g4, s4⟩ := up_ok (u := .lst (ys.set k v1)) g3 s3 dw3 ho q2 hF hR ⟨_, .inl upd_same, dly.set k dx⟩ (fun _ _ z => by cases z)
            exact .inl ⟨p', ys, j, k, rfl, dn3, hH, by rw [← dly.length]; exact q0, h3 σ m3 _ (Wd.le.refl _) g4 s4⟩
      | _ => exact h3.elim
    | dK kvs => exact .inr (gen _ ho h3)
    | dT kvs => exact .inr (gen _ ho h3)
    | ins c fs => exact .inr (gen _ ho h3)
/-! ### fields -/
theorem putF_zip : ∀ {names : List Str} {xs : List V} {k : Nat} {f : Str} {v : V}, names.Nodup → names[k]? = some f → k ≤ xs.length → xs.length ≤ names.length →
    L2.putF f v (names.zip xs) = names.zip (if k < xs.length then xs.set k v else xs ++ [v])
  | [], _, _, _, _, _, h, _, _ => by simp at h
  | n :: names, [], k, f, v, hd, h, hk, _ => by
    have e0 : k = 0 := by simpa using hk
    subst e0
    simp at h
    subst h
    simp [L2.putF]
  | n :: names, x :: xs, 0, f, v, hd, h, hk, _ => by
    simp at h
    subst h
    simp [L2.putF]
  | n :: names, x :: xs, k + 1, f, v, hd, h, hk, hl => by
    rw [List.getElem?_cons_succ] at h
    have ne : ¬ n = f := fun z => by
      have := List.mem_of_getElem? h
      rw [← z] at this
      exact (List.nodup_cons.mp hd).1 this
    rw [List.zip_cons_cons]
    show (if n = f then _ else _) = _
    rw [if_neg ne, putF_zip (List.nodup_cons.mp hd).2 h (by simpa using hk) (by simpa using hl)]
    by_cases hlt : k < xs.length
    · rw [if_pos hlt, if_pos (by simpa using hlt)]
      rfl
    · rw [if_neg hlt, if_neg (by simpa using hlt)]
      rfl
def evSetf (rt : Ev) (c k : Nat) (rv : Ev) : EvS := fun e G => (rv e G).toD.st fun x e G => (rt e G).soft.st fun w e G => (match insW e G w with
    | some (c', fs) => if c = c' then (match putF fs k x with
      | some fs' => (match upO e G w (.ins c fs') with | some (e, G) => .nx e G | none => .no)
      | none => .no) else .no
    | none => .no)
theorem s_setf {o v : Expr} {f : Str} {c k : Nat} {p pos : Pos} {rt rv : Ev} (hK : X.K = T.K) (hc : ClsL T c) (hf : (T.fl c)[k]? = some f) (h1000 : (T.fl c).length < 1000) (ho : PE X o (tE T Wx rt)) (hv : PE X v (tE T Wx rv)) (hs : swapsWith v (some (.Attribute o f p)) pos.line X.env = pure false) :
    PS X (.Assign [.Attribute o f p] v pos) (tS T Wx (evSetf rt c k rv)) := by
  refine PS.imp (ps_fld (PE.imp ho fun _ _ _ => tE_of_tW) (PE.imp hv fun _ _ _ => tE_of_tD) hs) fun D σ H ⟨Rs, m, G, e, g, s, h⟩ => ?_
  refine ⟨Rs, m, G, e, g, s, OkR.st h fun x m1 e1 G1 H1 l1 g1 s1 h1 v1 dn1 => ⟨Rs, m1, G1, e1, g1, s1, OkR.st h1 fun w m2 e2 G2 H2 l2 g2 s2 h2 v2 dw => ?_⟩⟩
  have dx := Den.mono l2 x v1 dn1
  cases q : insW e2 G2 w with
  | none => rw [q] at h2; exact h2.elim
  | some z =>
    obtain ⟨c', fs⟩ := z
    rw [q] at h2
    dsimp only at h2
    by_cases ec : c = c'
    · subst ec
      rw [if_pos rfl] at h2
      cases q1 : putF fs k x with
      | none => rw [q1] at h2; exact h2.elim
      | some fs' =>
        rw [q1] at h2
        dsimp only at h2
        cases q2 : upO e2 G2 w (.ins c fs') with
        | none => rw [q2] at h2; exact h2.elim
        | some z =>
          obtain ⟨e4, G4⟩ := z
          rw [q2] at h2
          have ho : rdO e2 G2 w = some (.ins c fs) := by
            unfold insW at q
            cases qo : rdO e2 G2 w with
            | none => rw [qo] at q; cases q
            | some o =>
              rw [qo] at q
              cases o with
              | ins a b => cases q; rfl
              | _ => cases q
          obtain ⟨p', rfl, ⟨dx2, xs, hH, hl, dl⟩, hF, hR⟩ := own_at g2 s2 dw ho q2
          have hk : k ≤ xs.length ∧ DenL T m2 fs' (if k < xs.length then xs.set k v1 else xs ++ [v1]) := by
            unfold putF at q1
            rw [dl.length] at q1
            by_cases a1 : k < xs.length
            · rw [if_pos a1] at q1
              cases q1
              rw [if_pos a1]
              exact ⟨by omega, dl.set k dx⟩
            · rw [if_neg a1] at q1
              by_cases a2 : k = xs.length
              · rw [if_pos a2] at q1
                cases q1
                rw [if_neg a1]
                exact ⟨by omega, dl.append (DenL.one dx)⟩
              · rw [if_neg a2] at q1
                cases q1
          have kl : k < (T.fl c).length := (List.getElem?_eq_some_iff.mp hf).1
          have hz := putF_zip (v := v1) hc.nodup hf hk.1 hl
          have hl2 : (if k < xs.length then xs.set k v1 else xs ++ [v1]).length ≤ (T.fl c).length := by
            split
            · rw [List.length_set]; exact hl
            · rw [List.length_append, List.length_singleton]; omega
          obtain ⟨g4, s4⟩ := up_ok (u := .ins (T.ca c) dx2 ((T.fl c).zip (if k < xs.length then xs.set k v1 else xs ++ [v1]))) g2 s2 dw ho q2 hF hR ⟨dx2, _, upd_same, hl2, hk.2⟩ (fun _ _ z => ⟨c, fs', rfl⟩)
          rw [hK]
          refine ⟨p', _, dx2, _, rfl, hH, hc.cls, hc.noat f (List.mem_of_getElem? hf), ?_, ?_⟩
          · rw [List.length_zip]; omega
          · rw [hz]
            exact h2 σ m2 _ (Wd.le.refl _) g4 s4
    · rw [if_neg ec] at h2
      exact h2.elim
/-! ### displays -/
/-- the written keys, the values -/
inductive PPd (T : Tb) (Wx : WX) (X : Cx) (pos : Pos) : List (Option Expr) → List Expr → List (TE × TE) → List Str → (List S → List O → R (List D)) → Prop where
  | nil : PPd T Wx X pos [] [] [] [] fun e G => .ok [] e G
  | cons {k v : Expr} {ks : List (Option Expr)} {vs : List Expr} {trs : List (TE × TE)} {z : Str} {zs : List Str} {ra : Ev} {rs : List S → List O → R (List D)} (hk : PE X k (tC (.str z))) (hv : PE X v (tE T Wx ra)) (hr : PPd T Wx X pos ks vs trs zs rs) :
      PPd T Wx X pos (some k :: ks) (v :: vs) ((tC (.str z), tD T Wx fun e G => (ra e G).toD) :: trs) (z :: zs) fun e G => (ra e G).toD.bind fun x e G => (rs e G).bind fun xs e G => .ok (x :: xs) e G
theorem PPd.pps {pos : Pos} {ks : List (Option Expr)} {vs : List Expr} {trs : List (TE × TE)} {zs : List Str} {rs : List S → List O → R (List D)} (h : PPd T Wx X pos ks vs trs zs rs) : PPs X pos ks vs trs := by
  induction h with
  | nil => exact pps_nil
  | cons hk hv hr ih => exact pps_cons hk (PE.imp hv fun _ _ _ => tE_of_tD) ih
theorem PPd.len {pos : Pos} {ks : List (Option Expr)} {vs : List Expr} {trs : List (TE × TE)} {zs : List Str} {rs : List S → List O → R (List D)} (h : PPd T Wx X pos ks vs trs zs rs) : ks.length = vs.length ∧ zs.length = ks.length ∧ ks.all (·.isSome) = true := by
  induction h with
  | nil => exact ⟨rfl, rfl, rfl⟩
  | cons hk hv hr ih => exact ⟨by simp [ih.1], by simp [ih.2.1], by simp [ih.2.2]⟩
theorem PPd.run {pos : Pos} {ks : List (Option Expr)} {vs : List Expr} {trs : List (TE × TE)} {zs : List Str} {rs : List S → List O → R (List D)} (h : PPd T Wx X pos ks vs trs zs rs) : ∀ {σ : L2.St} {H : Hp} {Q : List (V × V) → Hp → Prop},
    (∃ Rs m G e, RlG T Rs m G H ∧ RlS T Rs m e σ H ∧ OkR T Rs Wx m σ (rs e G) fun ds m' e' G' H' => ∀ vs, DenL T m' ds vs → Q ((zs.map V.str).zip vs) H') → tPairs trs σ H Q := by
  induction h with
  | nil =>
    intro σ H Q ⟨Rs, m, G, e, g, s, h⟩
    exact h m H (Wd.le.refl _) g s [] rfl
  | @cons k v ks vs trs z zs ra rs hk hv hr ih =>
    intro σ H Q ⟨Rs, m, G, e, g, s, h⟩
    refine ⟨Rs, m, G, e, g, s, OkR.thn h fun d1 m1 e1 G1 H1 l1 g1 s1 h1 v1 dn1 => ih ⟨Rs, m1, G1, e1, g1, s1, OkR.thn h1 fun ds m2 e2 G2 H2 l2 g2 s2 h2 vs dl => ?_⟩⟩
    exact h2 m2 H2 (Wd.le.refl m2) g2 s2 (v1 :: vs) ⟨v1, vs, rfl, Den.mono l2 d1 v1 dn1, dl⟩
theorem merge_den : ∀ {zs : List Str} {ds : List D} {vs : List V} {kvs : List (D × D)} {ys : List (Key × V)}, DenL T m ds vs → DenK T m kvs ys → DenK T m (mergeD kvs ((zs.map D.str).zip ds)) (mergeK ys ((zs.map Sum.inr).zip vs))
  | [], ds, vs, kvs, ys, _, h => h
  | z :: zs, [], vs, kvs, ys, dl, h => by
    have e : vs = [] := dl
    subst e
    exact h
  | z :: zs, d :: ds, vs, kvs, ys, ⟨v, vs', e, dn, dl⟩, h => by
    subst e
    have := put_den (k := Sum.inr z) dn h
    exact merge_den (zs := zs) dl this
theorem OkR.less {α : Type} {Rs' : Hp} {r : R α} {k k' : α → Wd → List S → List O → Hp → Prop} (h : OkR T Rs Wx m σ r k) (hl : ∀ p o, Rs p = some o → Rs' p = some o) (hk : ∀ a m' e' G' H', m.le m' → RlG T Rs' m' G' H' → RlS T Rs' m' e' σ H' → k a m' e' G' H' → k' a m' e' G' H') : OkR T Rs' Wx m σ r k' := by
  cases r with
  | ok a e G => exact fun m2 H2 l2 g s => hk _ _ _ _ _ l2 g s (h m2 H2 l2 (g.less hl) (s.less hl))
  | ex x e G => exact fun c d m2 H2 l2 g s dx => h c d m2 H2 l2 (g.less hl) (s.less hl) dx
  | no => exact h
def evDct (zs : List Str) (rs : List S → List O → R (List D)) : Ev := fun e G => (rs e G).bind fun xs e G => if decide (zs.length = xs.length) && decide (zs.length ≤ 15) then .ok (.f (.dK (mergeD [] ((zs.map D.str).zip xs)))) e G else .no
theorem x_dct {pos : Pos} {ks : List (Option Expr)} {vs : List Expr} {trs : List (TE × TE)} {zs : List Str} {rs : List S → List O → R (List D)} (h : PPd T Wx X pos ks vs trs zs rs) (h0 : ks ≠ []) (h15 : ks.length ≤ 15) : PE X (.Dict ks vs pos) (tE T Wx (evDct zs rs)) := by
  obtain ⟨e1, e2, e3⟩ := h.len
  refine PE.imp (pe_disp h.pps e3 e1 h0 h15) fun σ H Q ⟨Rs, m, G, e, g, s, hh⟩ p hp => h.run ?_
  have hF := g.freeF hp
  have hr := g.freeG hp
  have hR := g.freeR hp
  have ls : ∀ q o, Rs q = some o → upd Rs p (.dK []) q = some o := fun q o z => by
    rw [upd_ne (fun y => by rw [y, hR] at z; cases z)]
    exact z
  refine ⟨upd Rs p (.dK []), m, G, e, g.put hF hr (fun _ z => nomatch z), s.put (s.freeO hp), ?_⟩
  unfold evDct at hh
  cases q : rs e G with
  | no => rw [q] at hh; exact hh
  | ex x e' G' => rw [q] at hh; exact OkR.less (k := fun w m' e' G' H' => ∀ v, DenW T Rs m' e' σ H' w v → Q v H') (r := (R.ex x e' G' : R W)) hh ls (fun _ _ _ _ _ _ _ _ z => z)
  | ok xs e' G' =>
    rw [q] at hh
    intro m1 H1 l1 g1 s1 us dl
    have hh : OkR T Rs Wx m σ (if decide (zs.length = xs.length) && decide (zs.length ≤ 15) then .ok (.f (.dK (mergeD [] ((zs.map D.str).zip xs)))) e' G' else .no) fun w m' e' G' H' => ∀ v, DenW T Rs m' e' σ H' w v → Q v H' := hh
    cases hb : (decide (zs.length = xs.length) && decide (zs.length ≤ 15)) with
    | false => rw [hb] at hh; exact hh.elim
    | true =>
      rw [hb] at hh
      obtain ⟨b1, b2⟩ := Bool.and_eq_true_iff.mp hb
      have b1 := of_decide_eq_true b1
      have b2 := of_decide_eq_true b2
      have hD := g1.rs p _ upd_same
      refine ⟨hD.1, (zs.map Sum.inr).zip us, ?_, ?_, ?_⟩
      · -- the keys as values
        have gen : ∀ (zs : List Str) (us : List V), (zs.map V.str).zip us = ((zs.map (Sum.inr : Str → Key)).zip us).map fun kv => (kV kv.1, kv.2) := by
          intro zs
          induction zs with
          | nil => intro us; rfl
          | cons z zs ih =>
            intro us
            cases us with
            | nil => rfl
            | cons u us => simp [ih]; rfl
        exact gen zs us
      · rw [List.length_zip, List.length_map]; omega
      · have g2 : RlG T Rs m1 G' (upd H1 p (.dK (mergeK [] ((zs.map Sum.inr).zip us)))) := by
          have := g1.put (u := .dK (mergeK [] ((zs.map Sum.inr).zip us))) hD.2.1 hD.2.2.1 (fun _ z => nomatch z)
          rw [upd_upd] at this
          exact this.less fun q o z => by
            rw [upd_ne (fun y => by rw [y, hR] at z; cases z)]
            exact z
        have hO7 : ∀ (i : Nat) (q : O), e'[i]? = some (.own q) → σ[i]? ≠ some (some (.ref p)) := fun j o k z => by
          obtain ⟨p', a1, _, a3, _⟩ := s1.o j o k
          rw [z] at a1
          cases a1
          rw [upd_same] at a3
          cases a3
        have s2 : RlS T Rs m1 e' σ (upd H1 p (.dK (mergeK [] ((zs.map Sum.inr).zip us)))) := by
          have := s1.put (u := .dK (mergeK [] ((zs.map Sum.inr).zip us))) hO7
          rw [upd_upd] at this
          exact this.less fun q o z => by
            rw [upd_ne (fun y => by rw [y, hR] at z; cases z)]
            exact z
        exact hh m1 _ l1 g2 s2 _ ⟨p, rfl, hD.2.1, hR, hD.2.2.1, hO7, _, upd_same, merge_den (kvs := []) (ys := []) dl rfl⟩
end
end Mn
/-! Mn18: whether a term is a def's text. -/
namespace Mn
open PySem PySem.Spec PyProof.Rows L2
/-! ### the text's parts -/
def asName : Expr → Option (Str × Pos)
  | .Name x p => some (x, p)
  | _ => none
def asTup : Expr → Option (List Expr × Nat × Pos)
  | .Tuple x n p => some (x, n, p)
  | _ => none
def asLst : Expr → Option (List Expr × Pos)
  | .List x p => some (x, p)
  | _ => none
def asDict : Expr → Option (List (Option Expr) × List Expr × Pos)
  | .Dict k v p => some (k, v, p)
  | _ => none
def asBin : Expr → Option (Expr × Operator × Expr × Pos)
  | .BinOp a o b p => some (a, o, b, p)
  | _ => none
def asUn : Expr → Option (UnaryOp × Expr × Pos)
  | .UnaryOp o a p => some (o, a, p)
  | _ => none
def asCmp : Expr → Option (Expr × List CmpOp × List Expr × Pos)
  | .Compare a o b p => some (a, o, b, p)
  | _ => none
def asBoo : Expr → Option (BoolOp × List Expr × Pos)
  | .BoolOp o a p => some (o, a, p)
  | _ => none
def asIf : Expr → Option (Expr × Expr × Expr × Pos)
  | .IfExp c a b p => some (c, a, b, p)
  | _ => none
def asSub : Expr → Option (Expr × Expr × Pos)
  | .Subscript a i p => some (a, i, p)
  | _ => none
def asSlc : Expr → Option (Option Expr × Option Expr × Option Expr × Pos)
  | .Slice a b c p => some (a, b, c, p)
  | _ => none
def asAtt : Expr → Option (Expr × Str × Pos)
  | .Attribute a f p => some (a, f, p)
  | _ => none
def asCal : Expr → Option (Expr × List Expr × List Keyword × Pos)
  | .Call f a k p => some (f, a, k, p)
  | _ => none
def asCon : Expr → Option (Const × Nat × Pos)
  | .Constant c k p => some (c, k, p)
  | _ => none
def asLc : Expr → Option (Expr × List Comprehension × Scope × Pos)
  | .ListComp e g s p => some (e, g, s, p)
  | _ => none
def asDc : Expr → Option (Expr × Expr × List Comprehension × Scope × Pos)
  | .DictComp k v g s p => some (k, v, g, s, p)
  | _ => none
theorem asDc_eq {ex : Expr} {x} (h : asDc ex = some x) : ex = .DictComp x.1 x.2.1 x.2.2.1 x.2.2.2.1 x.2.2.2.2 := by cases ex <;> first | (cases h; rfl) | cases h
theorem asName_eq {ex : Expr} {x : Str × Pos} (h : asName ex = some x) : ex = .Name x.1 x.2 := by cases ex <;> first | (cases h; rfl) | cases h
theorem asTup_eq {ex : Expr} {x} (h : asTup ex = some x) : ex = .Tuple x.1 x.2.1 x.2.2 := by cases ex <;> first | (cases h; rfl) | cases h
theorem asLst_eq {ex : Expr} {x} (h : asLst ex = some x) : ex = .List x.1 x.2 := by cases ex <;> first | (cases h; rfl) | cases h
theorem asDict_eq {ex : Expr} {x} (h : asDict ex = some x) : ex = .Dict x.1 x.2.1 x.2.2 := by cases ex <;> first | (cases h; rfl) | cases h
theorem asBin_eq {ex : Expr} {x} (h : asBin ex = some x) : ex = .BinOp x.1 x.2.1 x.2.2.1 x.2.2.2 := by cases ex <;> first | (cases h; rfl) | cases h
theorem asUn_eq {ex : Expr} {x} (h : asUn ex = some x) : ex = .UnaryOp x.1 x.2.1 x.2.2 := by cases ex <;> first | (cases h; rfl) | cases h
theorem asCmp_eq {ex : Expr} {x} (h : asCmp ex = some x) : ex = .Compare x.1 x.2.1 x.2.2.1 x.2.2.2 := by cases ex <;> first | (cases h; rfl) | cases h
theorem asBoo_eq {ex : Expr} {x} (h : asBoo ex = some x) : ex = .BoolOp x.1 x.2.1 x.2.2 := by cases ex <;> first | (cases h; rfl) | cases h
theorem asIf_eq {ex : Expr} {x} (h : asIf ex = some x) : ex = .IfExp x.1 x.2.1 x.2.2.1 x.2.2.2 := by cases ex <;> first | (cases h; rfl) | cases h
theorem asSub_eq {ex : Expr} {x} (h : asSub ex = some x) : ex = .Subscript x.1 x.2.1 x.2.2 := by cases ex <;> first | (cases h; rfl) | cases h
theorem asSlc_eq {ex : Expr} {x} (h : asSlc ex = some x) : ex = .Slice x.1 x.2.1 x.2.2.1 x.2.2.2 := by cases ex <;> first | (cases h; rfl) | cases h
theorem asAtt_eq {ex : Expr} {x} (h : asAtt ex = some x) : ex = .Attribute x.1 x.2.1 x.2.2 := by cases ex <;> first | (cases h; rfl) | cases h
theorem asCal_eq {ex : Expr} {x} (h : asCal ex = some x) : ex = .Call x.1 x.2.1 x.2.2.1 x.2.2.2 := by cases ex <;> first | (cases h; rfl) | cases h
theorem asCon_eq {ex : Expr} {x} (h : asCon ex = some x) : ex = .Constant x.1 x.2.1 x.2.2 := by cases ex <;> first | (cases h; rfl) | cases h
theorem asLc_eq {ex : Expr} {x} (h : asLc ex = some x) : ex = .ListComp x.1 x.2.1 x.2.2.1 x.2.2.2 := by cases ex <;> first | (cases h; rfl) | cases h
/-- no star -/
def plain : Expr → Bool
  | .Starred _ _ => false
  | _ => true
def noSet : Expr → Bool
  | .Set _ _ _ => false
  | _ => true
/-- a name, an item, a field: what has a method, a field without more ado -/
def noSuper : Expr → Bool
  | .Call (.Name id _) [] [] _ => id != "super"
  | _ => true
/-- a test that looks at its value -/
def ownTest : Expr → Bool
  | .UnaryOp .Not _ _ => false
  | .BoolOp _ _ _ => false
  | .IfExp _ _ _ _ => false
  | .Compare _ _ _ _ => false
  | _ => true
theorem star_cons {e : Expr} {es : List Expr} {env : Env} (h : plain e = true) : starEach (e :: es) env = (false, eval e env) :: starEach es env := by
  cases e <;> first | rfl | cases h
theorem star_any {pos : Pos} {env : Env} : ∀ {es : List Expr}, es.all plain = true → (backTo pos (starEach es env)).any (·.1) = false
  | [], _ => rfl
  | e :: es, h => by
    rw [List.all_cons, Bool.and_eq_true] at h
    rw [star_cons h.1]
    show (false || (backTo pos (starEach es env)).any (·.1)) = false
    rw [star_any h.2] <;> rfl
theorem star_all {pos : Pos} {env : Env} : ∀ {es : List Expr}, es.all plain = true → (backTo pos (starEach es env)).all (fun x => !x.1) = true
  | [], _ => rfl
  | e :: es, h => by
    rw [List.all_cons, Bool.and_eq_true] at h
    rw [star_cons h.1]
    show (!false && (backTo pos (starEach es env)).all (fun x => !x.1)) = true
    rw [star_all h.2] <;> rfl
theorem nosup {o : Expr} {m : Str} {env : Env} {w : Sem Value} (h : noSuper o = true) : attributeBase o m env w = w := by
  unfold attributeBase
  split
  · rename_i id pp p
    have h' : (id != ("super" : Str)) = true := h
    simp only [h', Bool.true_or, if_true]
  · rfl
theorem subs_plain {b : Expr} (h : asSlc b = none) : ∀ o i, subscripted b false o i = operate [o, i] (getItem o i) := fun o i => by
  cases b <;> first | rfl | cases h
theorem noset {b : Expr} {op : CmpOp} (h : noSet b = true) : behindInMarks op b = false := by
  cases b <;> first | rfl | cases h
theorem folded {b : Expr} {env : Env} (h : noSet b = true) : ∀ x, foldedSetIterable b env x = pure x := fun x => by
  cases b <;> first | rfl | cases h
theorem ownTest_eq {e : Expr} {env : Env} (h : ownTest e = true) : ∀ whole, isTrue e env whole = (do let v ← whole; standAt e.pos; holding [v] (truthy v)) := fun whole => by
  cases e with
  | UnaryOp o a p => cases o <;> first | rfl | cases h
  | BoolOp o a p => cases h
  | IfExp a b c p => cases h
  | Compare a o b p => cases h
  | _ => rfl
theorem meth_eval {o : Expr} {mn : Str} {apos pos : Pos} {args : List Expr} {env : Env} (hs : noSuper o = true) (hp : args.all plain = true) (hl : args.length < 30) (hline : (apos.endLine == pos.line) = true) :
    eval (.Call (.Attribute o mn apos) args [] pos) env = (do
      let ov ← eval o env
      standAt apos.atName
      let (f, first) ← holding [ov] (getMethod ov mn (do return (← importBound o env).getD true))
      callWith pos f first (backTo pos (starEach args env)) (backToKw pos (keywordEach [] env))) := by
  have hf : methodCallForm (args.length + ([] : List Keyword).length) (backTo pos (starEach args env)) (backToKw pos (keywordEach [] env)) = true := by
    unfold methodCallForm
    rw [star_all hp]
    show (true && true && decide (args.length + 0 + 0 < 30)) = true
    simp [hl]
  rw [arm_eval_Call, nosup hs]
  unfold methodCall
  rw [hf]
  unfold calleeOf methodCallPos
  simp only [hline, Bool.not_true, Bool.false_or, if_true]
  rfl
end Mn
/-! Mn33: extend by a tuple. -/
namespace Mn
open PySem PySem.Spec PyProof.Rows L2
section
variable {prog : Program} {w : World} {A : Around} {s : Shared}
/-- a list grows by the items of a tuple or of another list -/
theorem grown {l b : Addr} {its its2 : List Value} {n n2 : Nat} {o : Obj} {T : String} {res : Value} {R : Fin → Shared → Prop} {E : Value → Shared → Prop} (two : T = "tuple" ∨ T = "list") (hl : s.heap.get? l = some { cls := .type "list", data := .seq its.toArray n }) (hb : s.heap.get? b = some o) (hc : o.cls = .type T) (hd : o.data = .seq its2.toArray n2)
    (fits : its.length + its2.length ≤ sizeLine) (h : R (.done (.ret res)) { s with heap := s.heap.update l (Obj.mapSeq (· ++ its2.toArray)) }) : wpAny (model prog w) A (Builtin.List.listExtendWith (.ref l) (.ref b) res) R E s := by
  have kind : (Builtin.List.listSameRef (.ref l) (.ref b) || Value.type T == .type "list" || Value.type T == .type "tuple") = true := by rcases two with rfl | rfl <;> simp
  have small : (!its.toArray.isEmpty && Builtin.List.listTooLong (its.toArray.size + its2.toArray.size)) = false := by rw [notLongL (by simpa using fits)]; exact Bool.and_false _
  have step : wpAny (model prog w) A (Builtin.List.listUpdate (.ref l) (· ++ its2.toArray)) (fun _ s' => R (.done (.ret res)) s') E s := listUpdate_at hl rfl h (by simp; omega) (by simp; omega)
  exact wpAny_bind (wpAny_typeOf ⟨o, hb, hc⟩ (wpAny_ite_true (decide_eq_true kind) (wpAny_bind (listItems_at hb hd (wpAny_bind (listItems_at hl rfl (wpAny_ite_false (decide_eq_false (by rw [small]; exact Bool.false_ne_true)) (wpAny_bind (wpAny_mono step (fun _ _ q => wpAny_pure q) fun _ _ e => e)))))))))
end
section
variable {X : Cx}
theorem mt_grow : MtR X "list.extend" (fun x vs H Q => ∃ l b xs zs, (x = .ref l ∧ vs = [.ref b]) ∧ H l = some (.lst xs) ∧ H b = some (.tup zs) ∧ xs.length + zs.length ≤ sizeLine ∧ Q .non (upd H l (.lst (xs ++ zs)))) :=
  fun pins s σ H x vs v us Q I rx rv ⟨l, b, xs, zs, ⟨ex, ev⟩, hl, hb, len, q⟩ => by
    subst ex ev
    cases rx
    rw [Vals.ref1 rv]
    obtain ⟨_, its, n, r, le, at_⟩ := I.lstM hl
    obtain ⟨T, o, its2, n2, two, ho, hc, hd, r2⟩ : ∃ (T : String) (o : Obj) (its2 : List Value) (n2 : Nat), (T = "tuple" ∨ T = "list") ∧ s.heap.get? b = some o ∧ o.cls = .type T ∧ o.data = .seq its2.toArray n2 ∧ Vals zs its2 := by
      obtain ⟨_, its2, r2, o, ho, hc, n2, hd⟩ := I.hok b _ hb
      exact ⟨_, o, its2, n2, .inl rfl, ho, hc, hd, r2⟩
    have J := I.lset (its' := its ++ its2) (f := (· ++ its2.toArray)) (t' := s.toks) hl at_ (by simp) (r.append r2) (by rw [List.length_append]; omega)
    exact wpAny_call_entry F.slot_list_extend ⟨_, at_, rfl⟩ F.entry_list_extend (grown two at_ ho hc hd (by rw [← r.length, ← r2.length]; exact len) ⟨.none, rfl, .non, _, J, rfl, q⟩) (F.args_list_extend_2 _ _)
variable {T : Tb}
theorem m_extend : MtR X "list.extend" (rMM T .extend) := by
  refine MtR.imp mt_grow fun x vs H Q ⟨Rs, m, G, e, σ, w, ds, g, s, dw, dl, h⟩ => ?_
  obtain ⟨o, r, o', h1, h2, h3⟩ := mmop_at h
  rcases h3 with ⟨z, _⟩ | ⟨_, e', G', h4, h5⟩
  · cases z
  cases o with
  | lst xs =>
    match ds, h2, dl with
    | [.tup ts], h2, dl =>
      have h2' : (if xs.length + ts.length ≤ sLn then some (W.d .non, O.lst (xs ++ ts)) else none) = some (r, o') := h2
      split at h2'
      · rename_i hz
        cases h2'
        obtain ⟨p, rfl, dno, hF, hR⟩ := own_at g s dw h1 h4
        obtain ⟨ys, hH, dly⟩ := lst_at dno
        obtain ⟨y, vs', rfl, ⟨b, zs, rfl, hb, dz⟩, e0⟩ := dl
        have ev : vs' = [] := e0
        subst ev
        obtain ⟨g2, s2⟩ := up_ok (u := .lst (ys ++ zs)) g s dw h1 h4 hF hR ⟨_, .inl upd_same, dly.append dz⟩ (fun _ _ z => by cases z)
        exact ⟨p, b, ys, zs, ⟨rfl, rfl⟩, hH, g.fz _ _ hb, by rw [← dly.length, ← dz.length]; exact hz, h5 m _ (Wd.le.refl _) g2 s2 _ rfl⟩
      · cases h2'
    | [], h2, _ => cases h2
    | a :: _ :: _, h2, _ => cases a <;> cases h2
    | [.non], h2, _ => cases h2
    | [.bl _], h2, _ => cases h2
    | [.int _], h2, _ => cases h2
    | [.str _], h2, _ => cases h2
    | [.obj _], h2, _ => cases h2
    | [.g _], h2, _ => cases h2
    | [.scr _], h2, _ => cases h2
  | _ =>
    match ds, h2 with
    | [], h2 => cases h2
    | [a], h2 => cases a <;> cases h2
    | a :: _ :: _, h2 => cases a <;> cases h2
end
end Mn
/-! Mn32: a display of one pair, whatever its key. -/
namespace Mn
open PySem PySem.Spec PyProof.Rows L2
def emD (t : Bool) : HO := if t then .dT [] else .dK []
section
variable {X : Cx} {pins : List (Addr × Obj)} {σ : L2.St} {H : Hp} {s : Shared} {a : Addr} {y v : V} {u r : Value} {E : Value → Shared → Prop}
/-- a pair goes into a dict -/
theorem d_put {H' : Hp} {Q : Unit → Shared → Prop} (hu : X.A.units + 1 < cLine) (I : Inv X pins σ H s) (g : DPut H a y v H') (ry : RelV y u) (rv : RelV v r) (h : ∀ s', Inv X pins σ H' s' → Q () s') :
    wpAny (model X.prog X.w) X.A (dictSet a u r) Q E s := by
  rcases g with ⟨kvs, k, e, ey, l, eH⟩ | ⟨kvs, k, b, e, ey, eb, l, eH⟩
  · rw [ey] at ry
    rw [eH] at h
    exact d_dictSet I e l ry rv h
  · rw [ey] at ry
    rw [eH] at h
    have eu : u = Value.ref b := ry
    rw [eu]
    obtain ⟨z, hd, xs, rel, dd⟩ := dt_of I.hok e
    have n1 : xs.length ≤ sizeLine := by rw [← Paired.length rel]; exact z
    have n2 := length_putK kvs k v
    refine wpAny_dictSet_heap (hsz := n1) (knd := tupleKind (mixKind X.prog X.w)) (show X.A.units < cLine by omega) (key_of I.hok eb) dd fun h' dd' hs => h _ ?_
    obtain ⟨q, es, ep, hq, h2, h3, h4, _, h5⟩ := dd'
    have rel2 := rel.put k eb rv
    refine d_write I (by rw [e]; exact True.intro) hs ⟨q, hq⟩ ⟨by omega, hd, _, rel2.keeps fun c ys ec => ?_, q, es, ep, hq, h2, h3, h4, h5⟩
    rw [upd_ne (fun w => by rw [w, e] at ec; cases ec)]
    exact ec
theorem em_laid (t : Bool) (I : Inv X pins σ H s) : Inv X pins σ (upd H s.heap.objs.size (emD t)) { s with heap := s.heap.push { cls := .type "dict", data := .dict #[] } } := by
  cases t with
  | true => exact I.laid (a := s.heap.objs.size) (o := .dT []) (t' := s.toks) (fun _ _ q => Heap.get?_push_of_some _ q) (Nat.le_refl _) (dt_empty s.heap I.big)
  | false => exact I.laid (a := s.heap.objs.size) (o := .dK []) (t' := s.toks) (fun _ _ q => Heap.get?_push_of_some _ q) (Nat.le_refl _) (dk_empty s.heap I.big)
/-- {k: v} -/
def tD1 (tk tv : TE) : TE := fun σ H Q => ∀ p, H p = none → ∃ t : Bool, tk σ (upd H p (emD t)) fun y H1 => tv σ H1 fun z H2 => ∃ H3, DPut H2 p y z H3 ∧ Q (.ref p) H3
theorem pe_d1 {k v : Expr} {pos : Pos} {tk tv : TE} (hu : X.A.units + 1 < cLine) (hk : PE X k tk) (hv : PE X v tv) : PE X (.Dict [some k] [v] pos) (tD1 tk tv) := by
  refine ⟨fun pins s σ H Q I q => ?_⟩
  obtain ⟨t, q⟩ := q _ (I.hok.fresh (Nat.le_refl s.heap.objs.size))
  refine wpAny_Dict_any rfl rfl (by simp) (show 1 ≤ 15 by decide) (pairTrees_cons_walk (thn (hk.run pins _ σ _ _ (em_laid t I) q) fun u s1 ⟨x, H1, I1, rx, q1⟩ => thn (hv.run pins s1 σ H1 _ I1 q1) fun u2 s2 ⟨y, H2, I2, ry, H3, dp, q3⟩ => pairTrees_nil_walk ?_))
  unfold storeAll
  rw [List.forIn_cons]
  refine wpAny_bind (wpAny_bind (d_put hu I2 dp rx ry fun s' I' => wpAny_pure ?_))
  exact wpAny_pure ⟨.ref s.heap.objs.size, H3, I', (show L2.RelV (.ref s.heap.objs.size) (Value.ref s.heap.objs.size) from rfl), q3⟩
end
section
variable {T : Tb} {Rs : Hp} {Wx : WX} {m : Wd} {σ : L2.St} {G : List O} {e : List S} {H : Hp} {X : Cx}
def evD1 (t : Bool) (ra rb : Ev) : Ev := fun e G => (ra e G).toD.bind fun x e G => (rb e G).toD.bind fun y e G => (match wrK (emO t) x y with | some o => .ok (.f o) e G | none => .no)
theorem em_den (t : Bool) {p : Addr} (h : H p = some (emD t)) : DenO T m H false (emO t) p := by
  cases t with
  | true => exact ⟨[], h, rfl⟩
  | false => exact ⟨[], h, rfl⟩
theorem em_nt (t : Bool) : ∀ xs, emD t ≠ .tup xs := fun xs z => by cases t <;> cases z
theorem x_d1 {k v : Expr} {pos : Pos} {t : Bool} {ra rb : Ev} (hu : X.A.units + 64 < cLine) (hk : PE X k (tE T Wx ra)) (hv : PE X v (tE T Wx rb)) : PE X (.Dict [some k] [v] pos) (tE T Wx (evD1 t ra rb)) := by
  refine PE.imp (pe_d1 (by omega) (PE.imp hk fun _ _ _ => tE_of_tD) (PE.imp hv fun _ _ _ => tE_of_tD)) fun σ H Q ⟨Rs, m, G, e, g, s, hh⟩ p hp => ⟨t, ?_⟩
  have hF := g.freeF hp
  have hr := g.freeG hp
  have hR := g.freeR hp
  have ls : ∀ q o, Rs q = some o → upd Rs p (emD t) q = some o := fun q o z => by
    rw [upd_ne (fun y => by rw [y, hR] at z; cases z)]
    exact z
  refine ⟨upd Rs p (emD t), m, G, e, g.put hF hr (em_nt t), s.put (s.freeO hp), ?_⟩
  unfold evD1 at hh
  show OkR T (upd Rs p (emD t)) Wx m σ (ra e G).toD _
  cases q1 : (ra e G).toD with
  | no => rw [q1] at hh; exact hh
  | ex x e' G' => rw [q1] at hh; exact OkR.less (k := fun w m' e' G' H' => ∀ v, DenW T Rs m' e' σ H' w v → Q v H') (r := (R.ex x e' G' : R W)) hh ls (fun _ _ _ _ _ _ _ _ z => z)
  | ok x e1 G1 =>
    rw [q1] at hh
    intro m1 H1 l1 g1 s1 v1 dn1
    refine ⟨upd Rs p (emD t), m1, G1, e1, g1, s1, ?_⟩
    have hh : OkR T Rs Wx m1 σ ((rb e1 G1).toD.bind fun y e G => (match wrK (emO t) x y with | some o => .ok (.f o) e G | none => .no)) fun w m' e' G' H' => ∀ v, DenW T Rs m' e' σ H' w v → Q v H' := OkR.le hh l1
    show OkR T (upd Rs p (emD t)) Wx m1 σ (rb e1 G1).toD _
    cases q2 : (rb e1 G1).toD with
    | no => rw [q2] at hh; exact hh
    | ex x e' G' => rw [q2] at hh; exact OkR.less (k := fun w m' e' G' H' => ∀ v, DenW T Rs m' e' σ H' w v → Q v H') (r := (R.ex x e' G' : R W)) hh ls (fun _ _ _ _ _ _ _ _ z => z)
    | ok y e2 G2 =>
      rw [q2] at hh
      intro m2 H2 l2 g2 s2 v2 dn2
      have hh : OkR T Rs Wx m1 σ (match wrK (emO t) x y with | some o => .ok (.f o) e2 G2 | none => .no) fun w m' e' G' H' => ∀ v, DenW T Rs m' e' σ H' w v → Q v H' := hh
      cases q3 : wrK (emO t) x y with
      | none => rw [q3] at hh; exact hh.elim
      | some o =>
        rw [q3] at hh
        have hD := g2.rs p _ upd_same
        obtain ⟨u, dp, dd, ni⟩ := wrK_at g2.fz (em_den t hD.1) (Den.mono l2 x v1 dn1) dn2 q3
        have ut : ∀ xs, u ≠ .tup xs := fun xs z => by
          have := dd (upd H2 p u) upd_same
          rw [z] at dp
          rcases dp with ⟨_, _, _, _, _, e3⟩ | ⟨_, _, _, _, _, _, _, e3⟩
          · have := congrFun e3 p
            rw [upd_same, upd_same] at this
            cases this
          · have := congrFun e3 p
            rw [upd_same, upd_same] at this
            cases this
        have g3 : RlG T Rs m2 G2 (upd H2 p u) := by
          have := g2.put (u := u) hD.2.1 hD.2.2.1 ut
          rw [upd_upd] at this
          exact this.less fun q o z => by
            rw [upd_ne (fun y => by rw [y, hR] at z; cases z)]
            exact z
        have hO7 : ∀ (i : Nat) (q : O), e2[i]? = some (.own q) → σ[i]? ≠ some (some (.ref p)) := fun j o k z => by
          obtain ⟨p', a1, _, a3, _⟩ := s2.o j o k
          rw [z] at a1
          cases a1
          rw [upd_same] at a3
          cases a3
        have s3 : RlS T Rs m2 e2 σ (upd H2 p u) := by
          have := s2.put (u := u) hO7
          rw [upd_upd] at this
          exact this.less fun q o z => by
            rw [upd_ne (fun y => by rw [y, hR] at z; cases z)]
            exact z
        exact ⟨_, dp, hh m2 _ l2 g3 s3 _ ⟨p, rfl, hD.2.1, hR, hD.2.2.1, hO7, dd _ upd_same⟩⟩
end
end Mn
/-! Mn19: the check of a term, its parts. -/
namespace Mn
open PySem PySem.Spec PyProof.Rows L2
/-- what is known of names -/
structure Ck where
  N : List Str
  /-- built-in names -/
  bn : List Str
  fn : List (Str × Nat)
  cn : List (Str × Nat)
  gn : List (Str × Nat)
  /-- methods: class, name, def -/
  mt : List (Nat × Str × Nat)
  /-- properties: class, name, def -/
  pr : List (Nat × Str × Nat)
  nf : Nat
  np : Nat → Nat
  ini : Nat → Option Nat
  fl : Nat → List Str
/-- where one stands -/
structure Sx where
  sc : Scope
  tg : Str → Bool
def glOk (s : Sx) (x : Str) : Bool := (match s.sc.names.lookup x with | some .globalImplicit => true | _ => false) && !(x == ("__debug__" : Str))
def bnOk (k : Ck) (s : Sx) (x : Str) : Bool := glOk s x && k.bn.contains x
def visOk (k : Ck) (s : Sx) (i : Nat) (x : Str) : Bool := decide (k.N[i]? = some x) && (match s.sc.names.lookup x with | some .local => true | some .cell => true | some .free => true | _ => false) && !(x == ("__debug__" : Str)) && !(x == ("__classdict__" : Str))
def tgOk (k : Ck) (s : Sx) (i : Nat) (x : Str) : Bool := decide (k.N[i]? = some x) && s.tg x
def inner (s : Sx) (scope : Scope) : Sx := ⟨relS scope s.sc, fun x => match scope.names.lookup x with | some .local => true | some .cell => true | _ => false⟩
def Es.len : Es → Nat
  | .nil => 0
  | .cons _ r => r.len + 1
  | .star _ r => r.len + 1
def b1fn : B1 → Option (Str × Value)
  | .len => some ("len", .builtin "len")
  | .all => some ("all", .builtin "all")
  | .any => some ("any", .builtin "any")
  | .sum => some ("sum", .builtin "sum")
  | .abs => some ("abs", .builtin "abs")
  | .tup => some ("tuple", .type "tuple")
  | .list => some ("list", .type "list")
  | .int => some ("int", .type "int")
  | .sorted => some ("sorted", .builtin "sorted")
  | .min => some ("min", .builtin "min")
  | .max => some ("max", .builtin "max")
  | _ => none
def b2fn : B2 → Option Str
  | .min => some "min"
  | .max => some "max"
  | _ => none
def tyOk (k : Ck) (s : Sx) : Ty → Expr → Bool
  | .lt, y => (match asTup y with
    | some ([a, b], _, _) => (match asName a, asName b with
      | some (x, _), some (z, _) => x == ("list" : Str) && z == ("tuple" : Str) && bnOk k s "list" && bnOk k s "tuple"
      | _, _ => false)
    | _ => false)
  | .cls c, y => (match asName y with
    | some (x, _) => glOk s x && (match k.cn.lookup x with | some c' => c == c' | none => false)
    | none => false)
  | t, y => (match asName y, t.one with
    | some (x, _), some n => x == Str.ofString n && bnOk k s x
    | _, _ => false)
mutual
def chkG (k : Ck) (s : Sx) : Tg → Expr → Bool
  | .nm i, ex => (match asName ex with
    | some (x, _) => tgOk k s i x
    | none => false)
  | .tp ts, ex => (match asTup ex with
    | some (es, _, _) => es.all plain && chkGs k s ts es
    | none => false)
termination_by structural t => t
def chkGs (k : Ck) (s : Sx) : Tgs → List Expr → Bool
  | .nil, es => es.isEmpty
  | .cons a r, es => (match es with
    | e :: es => chkG k s a e && chkGs k s r es
    | [] => false)
termination_by structural t => t
end
def It.isOwnl : It → Bool
  | .ownl _ => true
  | _ => false
def mmOf : MM → Option (Str × Bool)
  | .append => some ("append", true)
  | .extend => some ("extend", true)
  | .pop => some ("pop", false)
  | .popAt => some ("pop", true)
  | .dget => some ("get", true)
  | .upd => some ("update", true)
  | _ => none
def strK : List (Option Expr) → Option (List Str)
  | [] => some []
  | some e :: r => (match asCon e with
    | some (.str z, _, _) => (strK r).map (z :: ·)
    | _ => none)
  | none :: _ => none
mutual
/-- b: as a test -/
def chk (k : Ck) : E → Sx → Bool → Expr → Bool
  | .var i, s, b, ex => (match asName ex with | some (x, _) => visOk k s i x | none => false)
  | .own i, s, b, ex => (match asName ex with | some (x, _) => visOk k s i x | none => false)
  | .kI i, s, b, ex => (match asCon ex with | some (.int j, _, _) => i == j | _ => false)
  | .kS z, s, b, ex => (match asCon ex with | some (.str y, _, _) => z == y | _ => false)
  | .kB z, s, b, ex => (match asCon ex with | some (.bool y, _, _) => z == y | _ => false)
  | .kN, s, b, ex => (match asCon ex with | some (.none, _, _) => true | _ => false)
  | .glb n, s, b, ex => (match asName ex with | some (x, _) => glOk s x && (match k.gn.lookup x with | some m => n == m | none => false) | none => false)
  | .tup es, s, b, ex => (match asTup ex with | some (xs, _, _) => chks k es s xs && decide (xs.length ≤ 1000) | none => false)
  | .lst es, s, b, ex => (match asLst ex with | some (xs, _) => chks k es s xs && decide (xs.length ≤ 1000) | none => false)
  | .dct0 t, s, b, ex => (match asDict ex with | some ([], [], _) => true | _ => false)
  | .dctK zs es, s, b, ex => (match asDict ex with | some (ks, vs, _) => decide (strK ks = some zs) && decide (ks.length = vs.length) && !ks.isEmpty && decide (ks.length ≤ 15) && chks k es s vs && vs.all plain | none => false)
  | .glo a, s, b, ex => !b && chk k a s false ex
  | .bin op a c, s, b, ex => (match asBin ex with | some (x, o, y, _) => decide (o = op.py) && chk k a s false x && chk k c s false y | none => false)
  | .neg a, s, b, ex => (match asUn ex with | some (.USub, x, _) => chk k a s false x | _ => false)
  | .cmp op a c, s, b, ex => (match asCmp ex with | some (x, [o], [y], _) => decide (o = op.py) && noSet y && chk k a s false x && chk k c s false y | _ => false)
  | .cmo neg a c, s, b, ex => (match asCmp ex with | some (x, [o], [y], _) => decide (o = if neg then .NotEq else .Eq) && noSet y && chk k a s false x && chk k c s false y | _ => false)
  | .chn o1 o2 a c d, s, b, ex => (match asCmp ex with | some (x, [p1, p2], [y, z], _) => decide (p1 = o1.py) && decide (p2 = o2.py) && noSet z && chk k a s false x && chk k c s false y && chk k d s false z | _ => false)
  | .not a, s, b, ex => (match asUn ex with | some (.Not, x, _) => chk k a s b x | _ => false)
  | .and a c, s, b, ex => (match asBoo ex with
    | some (.And, x :: y :: rest, p) => chk k a s b x && (match rest with | [] => chk k c s b y | _ => chk k c s b (.BoolOp .And (y :: rest) p))
    | _ => false)
  | .or a c, s, b, ex => (match asBoo ex with
    | some (.Or, x :: y :: rest, p) => chk k a s b x && (match rest with | [] => chk k c s b y | _ => chk k c s b (.BoolOp .Or (y :: rest) p))
    | _ => false)
  | .ite c a d, s, b, ex => (match asIf ex with | some (t, x, y, _) => !b && chk k c s true t && chk k a s false x && chk k d s false y | none => false)
  | .ix a i, s, b, ex => (match asSub ex with | some (x, y, _) => (asSlc y).isNone && chk k a s false x && chk k i s false y | none => false)
  | .dix a i, s, b, ex => (match asSub ex with | some (x, y, _) => (asSlc y).isNone && chk k a s false x && chk k i s false y | none => false)
  | .sl a lo hi, s, b, ex => (match asSub ex with
    | some (x, y, _) => (match asSlc y with
      | some (l, h, none, _) => chk k a s false x && chko k lo s l && chko k hi s h
      | _ => false)
    | none => false)
  | .rev a, s, b, ex => (match asSub ex with
    | some (x, y, _) => (match asSlc y with
      | some (none, none, some z, _) => (match asUn z with
        | some (.USub, o, _) => (match asCon o with
          | some (.int 1, _, _) => chk k a s false x
          | _ => false)
        | _ => false)
      | _ => false)
    | none => false)
  | .fld a c n, s, b, ex => (match asAtt ex with | some (x, f, _) => decide ((k.fl c)[n]? = some f) && noSuper x && chk k a s false x | none => false)
  | .call f es, s, b, ex => (match asCal ex with
    | some (x, as, [], _) => (match asName x with
      | some (y, _) => glOk s y && decide (k.fn.lookup y = some f) && decide (f < k.nf) && decide (k.ini f = none) && decide (es.len = k.np f) && as.all plain && chks k es s as
      | none => false)
    | _ => false)
  | .mth a c f es, s, b, ex => (match asCal ex with
    | some (x, as, [], p) => (match asAtt x with
      | some (o, mn, ap) => noSuper o && decide ((c, mn, f) ∈ k.mt) && decide (f < k.nf) && decide (k.ini f = none) && decide (es.len + 1 = k.np f) && as.all plain && decide (as.length < 30) && (ap.endLine == p.line) && chk k a s false o && chks k es s as
      | none => false)
    | _ => false)
  | .mk f es, s, b, ex => (match asCal ex with
    | some (x, as, [], _) => (match asName x with
      | some (y, _) => glOk s y && (match k.cn.lookup y with | some c => decide (k.ini f = some c) | none => false) && decide (f < k.nf) && decide (es.len = k.np f) && as.all plain && chks k es s as
      | none => false)
    | _ => false)
  | .b1 n a, s, b, ex => (match asCal ex with
    | some (x, [y], [], _) => (match asName x with
      | some (z, _) => (match n with
        | .rng => z == ("list" : Str) && bnOk k s "list" && bnOk k s "range" && (match asCal y with
          | some (x2, [y2], [], _) => (match asName x2 with
            | some (z2, _) => z2 == ("range" : Str) && plain y2 && chk k a s false y2
            | none => false)
          | _ => false)
        | .setlen => z == ("len" : Str) && bnOk k s "len" && bnOk k s "set" && (match asCal y with
          | some (x2, [y2], [], _) => (match asName x2 with
            | some (z2, _) => z2 == ("set" : Str) && plain y2 && chk k a s false y2
            | none => false)
          | _ => false)
        | n => (match b1fn n with
          | some (w, _) => z == w && bnOk k s w && plain y && chk k a s false y
          | none => false))
      | none => false)
    | _ => false)
  | .b2 n a c, s, b, ex => (match asCal ex with
    | some (x, [y, y'], [], _) => (match asName x with
      | some (z, _) => (match b2fn n with
          | some w => z == w && bnOk k s w && plain y && plain y' && chk k a s false y && chk k c s false y'
          | none => false)
      | none => false)
    | _ => false)
  | .isi a t, s, b, ex => (match asCal ex with
    | some (x, [y, y'], [], _) => (match asName x with
      | some (z, _) => z == ("isinstance" : Str) && bnOk k s "isinstance" && plain y && tyOk k s t y' && chk k a s false y
      | none => false)
    | _ => false)
  | .mm m t es, s, b, ex => (match asCal ex with
    | some (x, as, [], p) => (match asAtt x with
      | some (o, mn, ap) => (match mmOf m with
        | some (w, one) => mn == w && (if one then decide (as.length = 1) else decide (as.length = 0)) && noSuper o && as.all plain && (ap.endLine == p.line) && chk k t s false o && chks k es s as
        | none => false)
      | none => false)
    | _ => false)
  | .lc vs elt tg it ifs, s, b, ex => (match asLc ex with
    | some (e, [⟨t, i, cs, 0⟩], scope, _) => blkC k.N s.sc scope (vs.filterMap fun v => (k.N[v]?).map fun x => (x, v)) && decide ((vs.filterMap fun v => (k.N[v]?).map fun x => (x, v)).map (·.2) = vs) && decide (∀ j ∈ tg.slots, j ∈ vs) && noSet i && chkG k (inner s scope) tg t && chki k it s t i && chkt k ifs (inner s scope) cs && chk k elt (inner s scope) false e
    | _ => false)
  | .lc2 vs elt tg it tg1 it1, s, b, ex => (match asLc ex with
    | some (e, [⟨t, i, [], 0⟩, ⟨t1, i1, [], 0⟩], scope, _) => blkC k.N s.sc scope (vs.filterMap fun v => (k.N[v]?).map fun x => (x, v)) && decide ((vs.filterMap fun v => (k.N[v]?).map fun x => (x, v)).map (·.2) = vs) && decide (∀ j ∈ tg.slots, j ∈ vs) && decide (∀ j ∈ tg1.slots, j ∈ vs) && noSet i && noSet i1 && !it1.isOwnl && chkG k (inner s scope) tg t && chki k it s t i && chkG k (inner s scope) tg1 t1 && chki k it1 (inner s scope) t1 i1 && chk k elt (inner s scope) false e
    | _ => false)
  | .d1 t a c, s, b, ex => (match asDict ex with | some ([some x], [y], _) => chk k a s false x && chk k c s false y | _ => false)
  | .dc o vs ka va tg it ifs, s, b, ex => (match asDc ex with
    | some (ek, ev, [⟨t, i, cs, 0⟩], scope, _) => blkC k.N s.sc scope (vs.filterMap fun v => (k.N[v]?).map fun x => (x, v)) && decide ((vs.filterMap fun v => (k.N[v]?).map fun x => (x, v)).map (·.2) = vs) && decide (∀ j ∈ tg.slots, j ∈ vs) && noSet i && chkG k (inner s scope) tg t && chki k it s t i && chkt k ifs (inner s scope) cs && chk k ka (inner s scope) false ek && chk k va (inner s scope) false ev
    | _ => false)
  | .lenI a c f, s, b, ex => (match asCal ex with
    | some (x, [y], [], _) => (match asName x with
      | some (z, _) => z == ("len" : Str) && bnOk k s "len" && decide ((c, ("__len__" : Str), f) ∈ k.mt) && decide (f < k.nf) && decide (k.ini f = none) && decide (k.np f = 1) && plain y && chk k a s false y
      | none => false)
    | _ => false)
  | .prop a c f, s, b, ex => (match asAtt ex with | some (x, mn, _) => decide ((c, mn, f) ∈ k.pr) && decide (f < k.nf) && decide (k.ini f = none) && decide (k.np f = 1) && noSuper x && chk k a s false x | none => false)
termination_by structural t => t
def chks (k : Ck) : Es → Sx → List Expr → Bool
  | .nil, s, es => es.isEmpty
  | .cons a r, s, es => (match es with
    | e :: es => plain e && chk k a s false e && chks k r s es
    | [] => false)
  | .star a r, s, es => (match es with
    | .Starred e _ :: es => chk k a s false e && chks k r s es
    | _ => false)
termination_by structural t => t
def chko (k : Ck) : Eo → Sx → Option Expr → Bool
  | .none, s, o => o.isNone
  | .some a, s, o => (match o with
    | some e => chk k a s false e
    | none => false)
termination_by structural t => t
def chkt (k : Ck) : Eo → Sx → List Expr → Bool
  | .none, s, cs => cs.isEmpty
  | .some a, s, cs => (match cs with
    | [c] => chk k a s true c
    | _ => false)
termination_by structural t => t
def chki (k : Ck) : It → Sx → Expr → Expr → Bool
  | .seq a, s, tg, i => chk k a s false i
  | .ownl n, s, tg, i => (match asName i with | some (x, _) => visOk k s n x | none => false)
  | .rng a c, s, tg, i => (match asCal i with
    | some (x, as, [], _) => (match asName x with
      | some (z, _) => z == ("range" : Str) && bnOk k s "range" && (match as with
        | [y] => (match a with
          | .kI 0 => plain y && chk k c s false y
          | _ => false)
        | [y, y'] => plain y && plain y' && chk k a s false y && chk k c s false y'
        | _ => false)
      | none => false)
    | _ => false)
  | .enum a, s, tg, i => (asTup tg).isSome && (match asCal i with
    | some (x, [y], [], _) => (match asName x with
      | some (z, _) => z == ("enumerate" : Str) && bnOk k s "enumerate" && plain y && chk k a s false y
      | none => false)
    | _ => false)
  | .zip st a c, s, tg, i => st && (asTup tg).isSome && (match asCal i with
    | some (x, [y, y'], [⟨some w, v, _⟩], _) => (match asName x with
      | some (z, _) => z == ("zip" : Str) && w == ("strict" : Str) && (match asCon v with | some (.bool true, _, _) => true | _ => false) && bnOk k s "zip" && plain y && plain y' && chk k a s false y && chk k c s false y'
      | none => false)
    | _ => false)
  | .items _, _, _, _ => false
  | .vals _, _, _, _ => false
  | .keys _, _, _, _ => false
termination_by structural t => t
end
end Mn
/-! Mn20: a checked term tells its text. -/
namespace Mn
open PySem PySem.Spec PyProof.Rows L2
structure Lk (T : Tb) (mg : Str → Option Value) (k : Ck) (gl : Nat → W) : Prop where
  bn : ∀ x ∈ k.bn, mg x = none
  fn : ∀ x f, k.fn.lookup x = some f → mg x = some (.ref (T.fa f)) ∧ PySem.W.keepIn T.K (.ref (T.fa f)) = true
  cn : ∀ x c, k.cn.lookup x = some c → mg x = some (.ref (T.ca c))
  mkc : ∀ f c, k.ini f = some c → Mk T.K (T.ca c) (T.fa f)
  gn : ∀ x n, k.gn.lookup x = some n → ∃ v u, mg x = some u ∧ RelV v u ∧ ∀ Rs m e σ H, DenW T Rs m e σ H (gl n) v
  mt : ∀ c mn f, (c, mn, f) ∈ k.mt → Meth T.K (T.ca c) mn (T.fa f) ∧ mn ∉ T.fl c
  pr : ∀ c mn f, (c, mn, f) ∈ k.pr → ∃ p, PropOf T.K (T.ca c) mn p (T.fa f)
  fl : k.fl = T.fl
  cls : ∀ c, ClsL T c
  isl : ∀ c, IsL T c
  few : ∀ c, (T.fl c).length < 1000
def FnsOk (T : Tb) (k : Ck) (cl : Call) (n : Nat) (P : Program) (w : World) (mg : Str → Option Value) (base : Heap) : Prop := ∀ f, f < k.nf → ∃ fd ps, Binds T.K fd ps [] ∧
  (k.ini f = none → FnOk P w T.K mg base (L2.CX P w) n (T.fa f) fd ps (spF T cl f (k.np f))) ∧
  (∀ c, k.ini f = some c → FnOk P w T.K mg base (L2.CX P w) n (T.fa f) fd ps (spI T cl f c (k.np f)))
structure Cg (T : Tb) (k : Ck) (gl : Nat → W) (cl : Call) (n : Nat) (Wx : WX) (X : Cx) (s : Sx) : Prop where
  K : X.K = T.K
  N : X.N = k.N
  nd : k.N.Nodup
  u : X.A.units + 64 < cLine
  calm : X.calm = true
  tk : Takes X Wx
  sc : X.env.scope = s.sc
  tg : ∀ x, s.tg x = true → Loc X.env.scope x ∧ (X.fn x = true ∨ X.env.scope.names.lookup x = some .local)
  lk : Lk T X.mg k gl
  fk : FnsOk T k cl n X.prog X.w X.mg X.base
  room : Room (n + 1) X.A
theorem Room.less {n m : Nat} {A : Around} (h : Room n A) (l : m ≤ n) : Room m A := ⟨h.hd, by have := h.dp; omega, by have := h.un; omega⟩
section
variable {T : Tb} {k : Ck} {gl : Nat → W} {cl : Call} {n : Nat} {Wx : WX} {X : Cx} {s : Sx}
theorem Cg.gl_ (C : Cg T k gl cl n Wx X s) {x : Str} (h : glOk s x = true) : Gl X x ∧ (x == ("__debug__" : Str)) = false := by
  unfold glOk at h
  rw [Bool.and_eq_true] at h
  obtain ⟨h1, h2⟩ := h
  refine ⟨?_, by simpa using h2⟩
  show X.env.scope.names.lookup x = some .globalImplicit
  rw [C.sc]
  split at h1
  · assumption
  · cases h1
theorem Cg.bn_ (C : Cg T k gl cl n Wx X s) {x : Str} (h : bnOk k s x = true) : Gl X x ∧ X.mg x = none ∧ (x == ("__debug__" : Str)) = false := by
  unfold bnOk at h
  rw [Bool.and_eq_true] at h
  obtain ⟨a, b⟩ := C.gl_ h.1
  exact ⟨a, C.lk.bn x (by simpa using h.2), b⟩
theorem Cg.vis_ (C : Cg T k gl cl n Wx X s) {i : Nat} {x : Str} (h : visOk k s i x = true) : X.N[i]? = some x ∧ Vis X.env.scope x ∧ (x == ("__debug__" : Str)) = false ∧ (x == ("__classdict__" : Str)) = false := by
  unfold visOk at h
  simp only [Bool.and_eq_true, decide_eq_true_eq, Bool.not_eq_true'] at h
  obtain ⟨⟨⟨h1, h2⟩, h3⟩, h4⟩ := h
  refine ⟨by rw [C.N]; exact h1, ?_, h3, h4⟩
  rw [C.sc]
  split at h2
  · exact .inl (by assumption)
  · exact .inr (.inl (by assumption))
  · exact .inr (.inr (by assumption))
  · cases h2
theorem Cg.nd_ (C : Cg T k gl cl n Wx X s) : X.N.Nodup := by rw [C.N]; exact C.nd
theorem Cg.in_ (C : Cg T k gl cl n Wx X s) (scope : Scope) (s' : Shared) (H : Hp) (Ca : Addr) (cs : List (Str × Addr)) (fp : List Addr) : Cg T k gl cl n W0 (X.blk s' H scope (compEnvC scope cs Ca X.env) fp) (inner s scope) where
  K := C.K
  N := C.N
  nd := C.nd
  u := C.u
  calm := C.calm
  tk := takes0
  sc := by
    show relS scope X.env.scope = relS scope s.sc
    rw [C.sc]
  tg := fun x h => by
    have h' : (match scope.names.lookup x with | some .local => true | some .cell => true | _ => false) = true := h
    have look : ∀ (names : List (Str × NameKind)) (kd : NameKind), kd ≠ .free → names.lookup x = some kd → (names.map fun (n, k) => if (k == .free && X.env.scope.kind == .function && X.env.scope.names.lookup n == some .cell) then (n, NameKind.cell) else (n, k)).lookup x = some kd := fun names kd hk => by
      induction names with
      | nil => intro z; cases z
      | cons p r ih =>
        obtain ⟨a, b⟩ := p
        intro z
        rw [List.lookup_cons] at z
        rw [List.map_cons]
        cases hb : x == a with
        | true =>
          rw [hb] at z
          cases z
          have : (kd == NameKind.free) = false := by simpa using hk
          simp only [this, Bool.false_and, Bool.false_eq_true, if_false]
          rw [List.lookup_cons, hb]
        | false =>
          rw [hb] at z
          have := ih z
          cases hc : (b == NameKind.free && X.env.scope.kind == ScopeKind.function && X.env.scope.names.lookup a == some .cell) with
          | true =>
            simp only [hc, if_true]
            rw [List.lookup_cons, hb]
            exact this
          | false =>
            simp only [hc, Bool.false_eq_true, if_false]
            rw [List.lookup_cons, hb]
            exact this
    split at h'
    · rename_i q
      have := look _ _ (by decide) q
      exact ⟨.inl this, .inr this⟩
    · rename_i q
      have := look _ _ (by decide) q
      refine ⟨.inr this, .inl ?_⟩
      show (scope.names.lookup x == some .cell) = true
      rw [q]
      rfl
    · cases h'
  lk := C.lk
  fk := C.fk
  room := C.room
inductive EsOk (T : Tb) (Wx : WX) (X : Cx) : List Expr → (List S → List O → R (List D)) → Prop where
  | nil : EsOk T Wx X [] fun e G => .ok [] e G
  | cons {e : Expr} {es : List Expr} {ra : Ev} {rs : List S → List O → R (List D)} (hp : plain e = true) (h : PE X e (tE T Wx ra)) (r : EsOk T Wx X es rs) : EsOk T Wx X (e :: es) fun e G => (ra e G).toD.bind fun x e G => (rs e G).bind fun xs e G => .ok (x :: xs) e G
  | star {e : Expr} {p : Pos} {es : List Expr} {ra : Ev} {rs : List S → List O → R (List D)} (h : PE X e (tE T Wx ra)) (r : EsOk T Wx X es rs) : EsOk T Wx X (.Starred e p :: es) fun e G => (ra e G).soft.bind fun w e G => (match rdL e G w with
    | some xs => (rs e G).bind fun ys e G => if xs.length + ys.length ≤ 100000 then .ok (xs ++ ys) e G else .no
    | none => .no)
theorem a_star (hK : X.K = T.K) {e : Expr} {p : Pos} {es : List Expr} {ra : Ev} {rs : List S → List O → R (List D)} (ha : PE X e (tE T Wx ra)) (hs : PA X es (tDs T Wx rs)) : PA X (.Starred e p :: es) (tDs T Wx fun e G => (ra e G).soft.bind fun w e G => (match rdL e G w with
    | some xs => (rs e G).bind fun ys e G => if xs.length + ys.length ≤ 100000 then .ok (xs ++ ys) e G else .no
    | none => .no)) := by
  refine PA.imp (StX.pa_star (PE.imp ha fun _ _ _ => tE_of_tW) hs) fun σ H Q ⟨Rs, m, G, e, g, s, h⟩ => ⟨Rs, m, G, e, g, s, OkR.thn h fun w m1 e1 G1 H1 l1 g1 s1 h1 v dw => ?_⟩
  cases q : rdL e1 G1 w with
  | none => rw [q] at h1; exact h1.elim
  | some xs =>
    rw [q] at h1
    obtain ⟨a, us, rfl, dl, src⟩ := rdL_at g1 s1 dw.toW q
    rw [hK]
    refine ⟨a, us, rfl, src.symm, Rs, m1, G1, e1, g1, s1, OkR.thn h1 fun ys m2 e2 G2 H2 l2 g2 s2 h2 vs dl2 => ?_⟩
    by_cases hz : xs.length + ys.length ≤ 100000
    · rw [if_pos hz] at h2
      exact h2 m2 H2 (Wd.le.refl _) g2 s2 _ ((DenL.mono l2 xs us dl).append dl2)
    · rw [if_neg hz] at h2
      exact h2.elim
theorem EsOk.pa (hK : X.K = T.K) {es : List Expr} {rs : List S → List O → R (List D)} (h : EsOk T Wx X es rs) : PA X es (tDs T Wx rs) := by
  induction h with
  | nil => exact a_nil
  | cons hp h r ih => exact a_cons h ih (star_cons hp)
  | star h r ih => exact a_star hK h ih
theorem EsOk.len {es : List Expr} {rs : List S → List O → R (List D)} (h : EsOk T Wx X es rs) (hp : es.all Mn.plain = true) : Len rs es.length := by
  induction h with
  | nil => intro e G xs e' G' q; cases q; rfl
  | cons _ h r ih =>
    rw [List.all_cons, Bool.and_eq_true] at hp
    intro e G xs e' G' q
    obtain ⟨x, e1, G1, q1, q2⟩ := bind_ok q
    obtain ⟨ys, e2, G2, q3, q4⟩ := bind_ok q2
    cases q4
    rw [List.length_cons, List.length_cons, ih hp.2 _ _ _ _ _ q3]
  | star h r ih => cases hp
theorem EsOk.most {es : List Expr} {rs : List S → List O → R (List D)} (h : EsOk T Wx X es rs) : ∀ e G xs e' G', rs e G = .ok xs e' G' → xs.length ≤ es.length + 100000 := by
  induction h with
  | nil => intro e G xs e' G' q; cases q; exact Nat.zero_le _
  | cons _ h r ih =>
    intro e G xs e' G' q
    obtain ⟨x, e1, G1, q1, q2⟩ := bind_ok q
    obtain ⟨ys, e2, G2, q3, q4⟩ := bind_ok q2
    cases q4
    have := ih _ _ _ _ _ q3
    rw [List.length_cons, List.length_cons]
    omega
  | star h r ih =>
    intro e G xs e' G' q
    obtain ⟨w, e1, G1, q1, q2⟩ := bind_ok q
    split at q2
    · obtain ⟨ys, e2, G2, q3, q4⟩ := bind_ok q2
      split at q4
      · rename_i hz
        cases q4
        rw [List.length_append, List.length_cons]
        omega
      · cases q4
    · cases q2
theorem const_str {e : Expr} {z : Str} {n : Nat} {p : Pos} (h : asCon e = some (.str z, n, p)) : PE X e (tC (.str z)) := by
  rw [asCon_eq h]
  exact pe_str
theorem EsOk.ppd {pos : Pos} {es : List Expr} {rs : List S → List O → R (List D)} (h : EsOk T Wx X es rs) (hp : es.all Mn.plain = true) : ∀ {ks : List (Option Expr)} {zs : List Str}, strK ks = some zs → ks.length = es.length → ∃ trs, PPd T Wx X pos ks es trs zs rs := by
  induction h with
  | star h r ih => cases hp
  | nil =>
    intro ks zs h hl
    cases ks with
    | nil => cases h; exact ⟨_, .nil⟩
    | cons a b => simp at hl
  | @cons e es ra rs hp' h r ih =>
    intro ks zs hk hl
    rw [List.all_cons, Bool.and_eq_true] at hp
    cases ks with
    | nil => simp at hl
    | cons a b =>
      cases a with
      | none => cases hk
      | some a =>
        have hk' : (match asCon a with
          | some (.str z, _, _) => (strK b).map (z :: ·)
          | _ => none) = some zs := hk
        split at hk'
        · rename_i z _ _ q
          cases q2 : strK b with
          | none => rw [q2] at hk'; cases hk'
          | some zs' =>
            rw [q2] at hk'
            cases hk'
            obtain ⟨trs, h2⟩ := ih hp.2 q2 (by simpa using hl)
            exact ⟨_, .cons (const_str q) h h2⟩
        · cases hk'
/-- a value, and a test of it -/
theorem both {t : E} (h : ∀ b ex, chk k t s b ex = true → PE X ex (tE T Wx (evE cl gl t)) ∧ ownTest ex = true) :
    (∀ ex, chk k t s false ex = true → PE X ex (tE T Wx (evE cl gl t))) ∧ ∀ ex, chk k t s true ex = true → PT X ex (tBo T Wx fun e G => (evE cl gl t e G).toB) :=
  ⟨fun ex q => (h false ex q).1, fun ex q => t_val (h true ex q).1 (ownTest_eq (h true ex q).2)⟩
end
end Mn
/-! Mn31: == and != of lists that still change, as they stand. -/
namespace Mn
open PySem PySem.Spec PyProof.Rows L2
section
variable {T : Tb} {Rs : Hp} {Wx : WX} {m : Wd} {σ : L2.St} {G : List O} {e : List S} {H : Hp} {X : Cx}
def rCmo (T : Tb) (neg : Bool) : R2 := fun x y H Q => ∃ Rs m G e σ w v k, RlG T Rs m G H ∧ RlS T Rs m e σ H ∧ DenW T Rs m e σ H w x ∧ DenW T Rs m e σ H v y ∧ cmoW e G neg w v = some k ∧ Q (.bl k) H
mutual
theorem Den.dpG (g : RlG T Rs m G H) : ∀ (d : D) (n : Nat) (v : V), (d.rsv G).dat n = true → Den T m d v → Dp T.K H v (d.rsv G).toP
  | .non, n, v, hd, h => Den.dp g.fz .non n v hd h
  | .bl b, n, v, hd, h => Den.dp g.fz (.bl b) n v hd h
  | .int i, n, v, hd, h => Den.dp g.fz (.int i) n v hd h
  | .str z, n, v, hd, h => Den.dp g.fz (.str z) n v hd h
  | .obj o, n, v, hd, h => Den.dp g.fz (.obj o) n v hd h
  | .scr ns, n, v, hd, h => by cases hd
  | .tup ds, 0, v, hd, _ => by cases hd
  | .tup ds, n + 1, v, hd, ⟨p, xs, e, hp, l⟩ => by
    rw [e]
    exact .tup (.inl (.inl (g.fz _ _ hp))) (DenL.dpG g ds n xs hd l)
  | .g j, n, v, hd, ⟨p, e, hr⟩ => by
    have er : D.rsv G (.g j) = (match G[j]? with | some o => .obj o | none => .g j) := rfl
    rw [er] at hd ⊢
    cases q : G[j]? with
    | none => rw [q] at hd; cases hd
    | some o =>
      rw [q] at hd
      obtain ⟨_, dn⟩ := g.g j p o hr q
      rw [e]
      cases o with
      | lst ds =>
        cases n with
        | zero => cases hd
        | succ n =>
          obtain ⟨xs, hp, l⟩ := dn
          rcases hp with hp | ⟨z, _⟩
          · exact .lst (xs := xs) (.inl (.inl hp)) (DenL.dp g.fz ds n xs hd l)
          · cases z
      | _ => cases hd
termination_by structural d => d
theorem DenL.dpG (g : RlG T Rs m G H) : ∀ (ds : List D) (n : Nat) (vs : List V), D.datL (D.rsvL G ds) n = true → DenL T m ds vs → DpAll T.K H vs (D.toPL (D.rsvL G ds))
  | [], n, vs, _, h => by
    have e : vs = [] := h
    rw [e]; exact .nil
  | d :: ds, n, vs, hd, ⟨v, ws, e, a, l⟩ => by
    obtain ⟨ha, hb⟩ := Bool.and_eq_true_iff.mp (show ((d.rsv G).dat n && D.datL (D.rsvL G ds) n) = true from hd)
    rw [e]
    exact .cons (Den.dpG g d n v ha a) (DenL.dpG g ds n ws hb l)
termination_by structural d => d
end
/-- two values as they stand, told by data -/
theorem cmo_plain (hu : X.A.units + 64 < cLine) (neg : Bool) {pn : List (Addr × Obj)} {s : Shared} {a b : Value} {Q : VK} {k : Bool} {d1 d2 : D} {as bs : List Addr} (I : Inv X pn σ H s) (s1 : Reads s.heap a d1.toP as) (s2 : Reads s.heap b d2.toP bs) (hd1 : D.dat d1 deep = true) (hd2 : D.dat d2 deep = true) (ek : k = (D.eqv d1 d2 != neg)) (q : Q (.bl k) H) :
    wpAny (model X.prog X.w) X.A (compareOp (if neg then .NotEq else .Eq) a b) (EP X pn σ Q) X.xe s := by
  obtain ⟨p1, p2⟩ := dat_plain d1 _ hd1
  have p3 := (dat_plain d2 _ hd2).1
  rw [ek, eqv_toP _ _ _ _ hd1 hd2] at q
  cases neg with
  | false =>
    rw [Bool.bne_false] at q
    exact PySem.SeqAt.eq_plain s1 s2 p1 p3 (room2 hu p2) ⟨.bl _, H, I, rfl, q⟩
  | true =>
    rw [Bool.bne_true] at q
    exact PySem.SeqAt.ne_plain s1 s2 p1 p3 (room2 hu p2) ⟨.bl _, H, I, rfl, q⟩
theorem op_cmo (hK : X.K = T.K) (hu : X.A.units + 64 < cLine) (neg : Bool) : OpR X (compareOp (if neg then .NotEq else .Eq)) (rCmo T neg) := by
  intro pn s σ H x y a b Q I ra rb ⟨Rs, m, G, e, σ0, w, v, k, g, sl, n1, n2, hb, q⟩
  have other : cmoX G neg w v = some k → wpAny (model X.prog X.w) X.A (compareOp (if neg then .NotEq else .Eq) a b) (EP X pn σ Q) X.xe s := fun h => by
    unfold cmoX at h
    split at h
    · rename_i d1 d2
      split at h
      · rename_i hc
        obtain ⟨hd1, hd2⟩ := Bool.and_eq_true_iff.mp hc
        have f1 := Den.dpG g d1 _ x hd1 n1
        have f2 := Den.dpG g d2 _ y hd2 n2
        rw [← hK] at f1 f2
        obtain ⟨as, s1⟩ := Dp.reads I _ _ a f1 ra
        obtain ⟨bs, s2⟩ := Dp.reads I _ _ b f2 rb
        exact cmo_plain hu neg I s1 s2 hd1 hd2 (Option.some.inj h).symm q
      · cases h
    · cases h
  unfold cmoW at hb
  cases e1 : rdl e G w with
  | none => rw [e1] at hb; exact other hb
  | some xs =>
    cases e2 : rdl e G v with
    | none => rw [e1, e2] at hb; exact other hb
    | some ys =>
      rw [e1, e2] at hb
      dsimp only at hb
      obtain ⟨p, us, rfl, l1, d1⟩ := rdlW_at g sl n1 e1
      obtain ⟨r, vs, rfl, l2, d2⟩ := rdlW_at g sl n2 e2
      have key : (D.dat (.obj (.lst xs)) deep && D.dat (.obj (.lst ys)) deep) = true ∧ k = (D.eqv (.obj (.lst xs)) (.obj (.lst ys)) != neg) := by
        have h : (if D.dat (.obj (.lst xs)) deep && D.dat (.obj (.lst ys)) deep then some (D.eqv (.obj (.lst xs)) (.obj (.lst ys)) != neg) else none) = some k := by
          rw [← hb]
          cases neg with
          | false => rw [Bool.bne_false] <;> rfl
          | true => rw [Bool.bne_true] <;> rfl
        split at h
        · rename_i hc
          exact ⟨hc, (Option.some.inj h).symm⟩
        · cases h
      obtain ⟨hd, ek⟩ := key
      obtain ⟨hd1, hd2⟩ := Bool.and_eq_true_iff.mp hd
      have c1 : D.datL xs 59 = true := hd1
      have c2 : D.datL ys 59 = true := hd2
      have f1 := DenL.dp (T := T) g.fz xs _ us c1 l1
      have f2 := DenL.dp (T := T) g.fz ys _ vs c2 l2
      rw [← hK] at f1 f2
      obtain ⟨as, s1⟩ := Dp.reads I (.list (D.toPL xs)) _ a (.lst (.inl d1) f1) ra
      obtain ⟨bs, s2⟩ := Dp.reads I (.list (D.toPL ys)) _ b (.lst (.inl d2) f2) rb
      exact cmo_plain (d1 := .obj (.lst xs)) (d2 := .obj (.lst ys)) hu neg I s1 s2 hd1 hd2 ek q
def evCmo (neg : Bool) (ra rb : Ev) : Ev := fun e G => (ra e G).soft.bind fun w e G => (rb e G).soft.bind fun v e G => (match cmoW e G neg w v with | some k => .ok (.d (.bl k)) e G | none => .no)
theorem tCmo {neg : Bool} {ra rb : Ev} {Q : VK} (h : tE T Wx (evCmo neg ra rb) σ H Q) : tOp (rCmo T neg) (tW T Wx fun e G => (ra e G).soft) (tW T Wx fun e G => (rb e G).soft) σ H Q := by
  obtain ⟨Rs, m, G, e, g, s, h⟩ := h
  refine ⟨Rs, m, G, e, g, s, OkR.thn h fun w m1 e1 G1 H1 l1 g1 s1 h1 v1 dw1 => ⟨Rs, m1, G1, e1, g1, s1, OkR.thn h1 fun v m2 e2 G2 H2 l2 g2 s2 h2 v2 dw2 => ?_⟩⟩
  cases q : cmoW e2 G2 neg w v with
  | none => rw [q] at h2; exact h2.elim
  | some k =>
    rw [q] at h2
    exact ⟨Rs, m2, G2, e2, σ, w, v, k, g2, s2, (dw1.mono l2).toW, dw2.toW, q, h2 m2 H2 (Wd.le.refl _) g2 s2 _ rfl⟩
theorem x_cmo (hK : X.K = T.K) (hu : X.A.units + 64 < cLine) {neg : Bool} {a b : Expr} {pos : Pos} {ra rb : Ev} (ha : PE X a (tE T Wx ra)) (hb : PE X b (tE T Wx rb)) (hm : behindInMarks (if neg then CmpOp.NotEq else .Eq) b = false) :
    PE X (.Compare a [if neg then .NotEq else .Eq] [b] pos) (tE T Wx (evCmo neg ra rb)) :=
  PE.imp (pe_cmpR (op_cmo hK hu neg) (PE.imp ha fun _ _ _ => tE_of_tW) (PE.imp hb fun _ _ _ => tE_of_tW) hm) fun _ _ _ => tCmo
theorem t_cmo (hK : X.K = T.K) (hu : X.A.units + 64 < cLine) {neg : Bool} {a b : Expr} {pos : Pos} {ra rb : Ev} (ha : PE X a (tE T Wx ra)) (hb : PE X b (tE T Wx rb)) (hm : behindInMarks (if neg then CmpOp.NotEq else .Eq) b = false) :
    PT X (.Compare a [if neg then .NotEq else .Eq] [b] pos) (tBo T Wx fun e G => (evCmo neg ra rb e G).toB) :=
  PT.imp (pt_cmpR (op_cmo hK hu neg) (PE.imp ha fun _ _ _ => tE_of_tW) (PE.imp hb fun _ _ _ => tE_of_tW) hm) fun σ H Q h => tCmo (Q := fun x H' => ∃ k, x = .bl k ∧ Q k H') (tBo_of h)
end
end Mn
/-! Mn28: sorted(xs). -/
namespace Mn
open PySem PySem.Spec PyProof.Rows L2
section
variable {T : Tb} {Rs : Hp} {m : Wd} {σ : L2.St} {G : List O} {e : List S} {H : Hp} {X : Cx}
abbrev encD (b : D × V) : PyData := b.1.toP
theorem srtOk_at {xs : List D} (h : srtOk xs = true) : (∀ a ∈ xs, ∀ b ∈ xs, D.cmpb a b = true) ∧ ((∀ a ∈ xs, isNT a = true) ∨ ∀ a ∈ xs, noT a = true) := by
  unfold srtOk allCmp at h
  simp only [Bool.and_eq_true, Bool.or_eq_true, List.all_eq_true] at h
  exact h
theorem each_of {s : Shared} : ∀ {ds : List D} {xs : List V} {us : List Value}, DenL T m ds xs → Vals xs us → PySem.W.EachIs (fun (u : Value) (b : D × V) => RelV b.2 u) us (ds.zip xs) ∧ ∀ b ∈ ds.zip xs, Den T m b.1 b.2
  | [], xs, us, h, r => by
    have e : xs = [] := h
    subst e
    cases r
    exact ⟨.nil, fun b hb => by cases hb⟩
  | d :: ds, xs, us, ⟨v, vs, e, dn, dl⟩, r => by
    subst e
    cases r with
    | cons ru rr =>
      obtain ⟨h1, h2⟩ := each_of (s := s) dl rr
      exact ⟨.cons ru h1, fun b hb => by
        rcases List.mem_cons.mp hb with e | hb
        · rw [e]; exact dn
        · exact h2 b hb⟩
theorem vals_each : ∀ {us : List Value} {bs : List (D × V)}, PySem.W.EachIs (fun (u : Value) (b : D × V) => RelV b.2 u) us bs → Vals (bs.map (·.2)) us
  | _, _, .nil => .nil
  | _, _, .cons h r => .cons h (vals_each r)
theorem denL_map : ∀ {bs : List (D × V)}, (∀ b ∈ bs, Den T m b.1 b.2) → DenL T m (bs.map (·.1)) (bs.map (·.2))
  | [], _ => rfl
  | b :: bs, h => ⟨_, _, rfl, h b List.mem_cons_self, denL_map fun c hc => h c (List.mem_cons_of_mem _ hc)⟩
theorem each_reads {s : Shared} {pins : List (Addr × Obj)} (hK : X.K = T.K) (I : Inv X pins σ H s) (fz : ∀ p o, m.F p = some o → H p = some o) : ∀ {us : List Value} {bs : List (D × V)}, PySem.W.EachIs (fun (u : Value) (b : D × V) => RelV b.2 u) us bs → (∀ b ∈ bs, Den T m b.1 b.2 ∧ b.1.dat deep = true) → PySem.W.EachIs (fun u b => ∃ as, Reads s.heap u (encD b) as) us bs
  | _, _, .nil, _ => .nil
  | _, _, .cons h r, hb => .cons (reads_of hK I fz (hb _ List.mem_cons_self).1 (hb _ List.mem_cons_self).2 h) (each_reads hK I fz r fun c hc => hb c (List.mem_cons_of_mem _ hc))
theorem reads_ints {h : Heap} : ∀ {ns : List Int} {us : List Value}, Vals (ns.map V.int) us → PySem.ReadsAll h us (ns.map PyData.int) []
  | [], _, .nil => .nil
  | n :: ns, _, .cons r rs => by
    obtain ⟨t, rfl⟩ := r
    exact .cons (as := []) (.int n t) (reads_ints rs)
theorem reads_int {h : Heap} {v : Value} {z : Int} {bs : List Addr} (r : Reads h v (.int z) bs) : RelV (.int z) v := by
  cases r
  exact ⟨_, rfl⟩
theorem alike_ints (ns : List Int) : PySem.W.AlikeAll (ns.map PyData.int) := by
  refine ⟨fun x hx y hy => ?_, fun x hx => ?_⟩
  · obtain ⟨a, _, rfl⟩ := List.mem_map.mp hx
    obtain ⟨b, _, rfl⟩ := List.mem_map.mp hy
    rfl
  · obtain ⟨a, _, rfl⟩ := List.mem_map.mp hx
    exact fun z => nomatch z
theorem depth_ints : ∀ ns : List Int, PyData.depthAll (ns.map PyData.int) = 0
  | [] => rfl
  | n :: ns => by
    show max 0 (PyData.depthAll (ns.map PyData.int)) = 0
    rw [depth_ints ns]
    rfl
theorem best_at {b : B1} {f : Int → Int → Int} {x : Value} (hb : ∀ e G w, b1op e G b w = (match (rdL e G w).bind intsD with | some (x :: xs) => some (.d (.int (xs.foldl f x))) | _ => none)) (hK : X.K = T.K)
    (hcall : ∀ {pins : List (Addr × Obj)} {s : Shared} {l : Addr} {vs : Array Value} {n : Int} {ms : List Int} {as : List Addr} {Q : Value → Shared → Prop}, Inv X pins σ H s → (s.heap.IsList l vs ∨ s.heap.IsTuple l vs) → PySem.ReadsAll s.heap vs.toList (PyData.int n :: ms.map PyData.int) as → (∀ v h' tk, RelV (.int (ms.foldl f n)) v → (∀ b o, s.heap.get? b = some o → h'.get? b = some o) → Q v { s with heap := h', toks := tk }) →
      wpAny (model X.prog X.w) X.A (call x [.ref l]) Q X.xe s)
    {pins : List (Addr × Obj)} {s : Shared} {vs : List V} {us : List Value} {Q : VK} (I : Inv X pins σ H s) (rv : Vals vs us) (h : rB1 T b vs H Q) : wpAny (model X.prog X.w) X.A (call x us) (fun u s' => ∃ v H', Inv X pins σ H' s' ∧ RelV v u ∧ Q v H') X.xe s := by
  obtain ⟨Rs, m, G, e, σ0, w, v, r, g, sl, ev, dw, hq, q⟩ := h
  rw [hb] at hq
  cases k : rdL e G w with
  | none => rw [k] at hq; cases hq
  | some ds =>
    rw [k] at hq
    cases k2 : intsD ds with
    | none =>
      have : (match (intsD ds) with | some (x :: xs) => some (W.d (.int (xs.foldl f x))) | _ => none) = some r := hq
      rw [k2] at this
      cases this
    | some ns =>
      have hq' : (match (intsD ds) with | some (x :: xs) => some (W.d (.int (xs.foldl f x))) | _ => none) = some r := hq
      rw [k2] at hq'
      cases ns with
      | nil => cases hq'
      | cons n ms =>
        cases hq'
        obtain ⟨p, xs, rfl, l, sq⟩ := rdL_at g sl dw k
        have ex := l.vints k2
        subst ex ev
        rw [Vals.ref1 rv]
        have fin : ∀ (v : Value) (h' : Heap) (tk : Nat), RelV (.int (ms.foldl f n)) v → (∀ b o, s.heap.get? b = some o → h'.get? b = some o) → ∃ v' H', Inv X pins σ H' { s with heap := h', toks := tk } ∧ RelV v' v ∧ Q v' H' := fun v h' tk r kp => ⟨_, H, I.kept kp, r, q _ m _ (Wd.le.refl _) g sl rfl⟩
        rcases sq with sq | sq
        · rw [← hK] at sq
          obtain ⟨its, rvs, hl, _⟩ := I.list sq
          exact hcall I (.inl hl.isList) (reads_ints (ns := n :: ms) (by simpa using rvs)) fin
        · rw [← hK] at sq
          obtain ⟨its, rvs, hl, _⟩ := I.tuple sq
          exact hcall I (.inr hl) (reads_ints (ns := n :: ms) (by simpa using rvs)) fin
theorem c_minL (hK : X.K = T.K) (hc : X.calm = true) (hu : X.A.units + 64 < cLine) : CallR X (.builtin "min") (rB1 T .min) := fun pins s σ H vs us Q I rv h =>
  best_at (f := min) (fun _ _ _ => rfl) hK (fun {pins s l vs n ms as Q} I hl hr hq => by
    have hd : X.A.units + 1 + PyData.depthAll (PyData.int n :: ms.map PyData.int) < cLine := by
      rw [show PyData.int n :: ms.map PyData.int = (n :: ms).map PyData.int from rfl, depth_ints]
      omega
    have hal := alike_ints (n :: ms)
    rcases hl with hl | hl
    · exact PySem.W.min_list_data (I.ok.hd hc) hl hr hal hd fun i v h' tk bs hv r k => hq v h' tk (reads_int (by rw [PySem.W.minD_ints] at r; exact r)) k
    · exact PySem.W.min_tuple_data (I.ok.hd hc) hl hr hal hd fun i v h' tk bs hv r k => hq v h' tk (reads_int (by rw [PySem.W.minD_ints] at r; exact r)) k) I rv h
theorem c_maxL (hK : X.K = T.K) (hc : X.calm = true) (hu : X.A.units + 64 < cLine) : CallR X (.builtin "max") (rB1 T .max) := fun pins s σ H vs us Q I rv h =>
  best_at (f := max) (fun _ _ _ => rfl) hK (fun {pins s l vs n ms as Q} I hl hr hq => by
    have hd : X.A.units + 1 + PyData.depthAll (PyData.int n :: ms.map PyData.int) < cLine := by
      rw [show PyData.int n :: ms.map PyData.int = (n :: ms).map PyData.int from rfl, depth_ints]
      omega
    have hal := alike_ints (n :: ms)
    rcases hl with hl | hl
    · exact PySem.W.max_list_data (I.ok.hd hc) hl hr hal hd fun i v h' tk bs hv r k => hq v h' tk (reads_int (by rw [PySem.W.maxD_ints] at r; exact r)) k
    · exact PySem.W.max_tuple_data (I.ok.hd hc) hl hr hal hd fun i v h' tk bs hv r k => hq v h' tk (reads_int (by rw [PySem.W.maxD_ints] at r; exact r)) k) I rv h
theorem c_sorted (hK : X.K = T.K) (hu : X.A.units + 64 < cLine) : CallR X (.builtin "sorted") (rB1 T .sorted) := by
  intro pins s σ H xs us Q I rv h
  obtain ⟨Rs, m, G, e, σ0, w, v, r, g, sl, ev, dw, hb, q⟩ := h
  have hb' : (match rdl e G w with | some xs => if srtOk xs then some (W.f (.lst (srtD xs))) else none | none => none) = some r := hb
  cases k : rdl e G w with
  | none => rw [k] at hb'; cases hb'
  | some ds =>
    rw [k] at hb'
    dsimp only at hb'
    cases ho : srtOk ds with
    | false => rw [ho] at hb'; cases hb'
    | true =>
      rw [ho] at hb'
      cases hb'
      obtain ⟨hc, ht⟩ := srtOk_at ho
      obtain ⟨p, ys, rfl, dl, rd⟩ := rdlW_at g sl dw k
      subst ev
      rw [Vals.ref1 rv]
      obtain ⟨its, rvs, hl, hz⟩ := I.list (.inl rd)
      obtain ⟨e1, e2⟩ := each_of (s := s) dl rvs
      have mem : ∀ b ∈ ds.zip ys, b.1 ∈ ds := fun b hb => (List.of_mem_zip (a := b.1) (b := b.2) hb).1
      have cmp : ∀ a ∈ ds.zip ys, ∀ b ∈ ds.zip ys, D.alk a.1 b.1 = true ∧ a.1.dat deep = true ∧ b.1.dat deep = true := fun a ha b hb => by
        have := hc a.1 (mem a ha) b.1 (mem b hb)
        unfold D.cmpb at this
        simp only [Bool.and_eq_true] at this
        exact ⟨this.1.1.1, this.1.2, this.2⟩
      have e3 : ∀ b ∈ ds.zip ys, Den T m b.1 b.2 ∧ b.1.dat deep = true := fun b hb => ⟨e2 b hb, (cmp b hb b hb).2.1⟩
      have lenb : (ds.zip ys).length = ys.length := by rw [List.length_zip, dl.length]; omega
      refine PySem.W.sorted_data (enc := encD) (bs := ds.zip ys) hl.isList e1 (each_reads hK I g.fz e1 e3) ?_ ?_ (by rw [lenb]; exact hz) (fun b hb => ?_) fun out hlo eo => ?_
      · intro d hd d' hd'
        obtain ⟨a, ha, rfl⟩ := List.mem_map.mp hd
        obtain ⟨b, hb, rfl⟩ := List.mem_map.mp hd'
        obtain ⟨c1, c2, c3⟩ := cmp a ha b hb
        show PySem.W.alike a.1.toP b.1.toP = true
        rw [← alk_toP a.1 b.1 _ _ c2 c3]
        exact c1
      · rcases ht with ht | ht
        · refine .inl fun d hd => ?_
          obtain ⟨a, ha, rfl⟩ := List.mem_map.mp hd
          have := ht a.1 (mem a ha)
          obtain ⟨a1, a2⟩ := a
          cases a1 with
          | tup zs =>
            cases zs with
            | nil => cases this
            | cons z zs => exact ⟨z.toP, D.toPL zs, rfl⟩
          | _ => cases this
        · refine .inr fun d hd => ?_
          obtain ⟨a, ha, rfl⟩ := List.mem_map.mp hd
          have h1 := ht a.1 (mem a ha)
          have h2 := (e3 a ha).2
          obtain ⟨a1, a2⟩ := a
          cases a1 with
          | obj o =>
            cases o with
            | lst _ => exact ⟨fun z => (nomatch z), fun _ z => (nomatch z)⟩
            | _ => cases h2
          | g _ => cases h2
          | scr _ => cases h2
          | tup _ => cases h1
          | non => cases h1
          | _ => exact ⟨fun z => (nomatch z), fun _ z => (nomatch z)⟩
      · have := (dat_plain b.1 _ (e3 b hb).2).2
        have h6 : (encD b).depth ≤ 60 := this
        omega
      · obtain ⟨ep, he'⟩ := PyProof.Rows.sortedAll_at s.heap its out.toArray
        have hperm := List.mergeSort_perm (ds.zip ys) (PySem.W.dataLe false encD)
        have hD : ((ds.zip ys).mergeSort (PySem.W.dataLe false encD)).map (·.1) = srtD ds := by
          have hm : (ds.zip ys).map (·.1) = ds := List.map_fst_zip (by rw [dl.length]; exact Nat.le_refl _)
          rw [srtD_eq]
          rw [List.map_mergeSort (s := fun a b => !D.lt b a) (fun a ha b hb => ?_), hm]
          obtain ⟨c1, c2, c3⟩ := cmp b hb a ha
          rw [lt_toP b.1 a.1 _ _ c2 c3 c1]
          rfl
        have dl2 : DenL T m (srtD ds) (((ds.zip ys).mergeSort (PySem.W.dataLe false encD)).map (·.2)) := by
          rw [← hD]
          exact denL_map fun b hb => e2 b (hperm.mem_iff.mp hb)
        have hfresh := I.hok.fresh (Nat.le_succ s.heap.objs.size)
        obtain ⟨g4, s4, dn4⟩ := new_lst g sl hfresh dl2
        have rv2 := vals_each eo
        have hlen : (((ds.zip ys).mergeSort (PySem.W.dataLe false encD)).map (·.2)).length ≤ sizeLine := by rw [List.length_map, List.length_mergeSort, lenb]; exact hz
        exact ⟨.ref _, upd H (s.heap.objs.size + 1) (.lst (((ds.zip ys).mergeSort (PySem.W.dataLe false encD)).map (·.2))), I.laid (t' := s.toks) (fun _ _ => PyProof.Rows.sortedAll_old) (Nat.le_succ _) ⟨hlen, out, ep, rv2, he'⟩, rfl, q _ m _ (Wd.le.refl _) g4 s4 dn4⟩
end
end Mn
/-! Mn35: a property is read. -/
namespace Mn
open PySem PySem.Spec PyProof.Rows L2
section
variable {T : Tb} {Rs : Hp} {Wx : WX} {m : Wd} {σ : L2.St} {G : List O} {e : List S} {H : Hp} {X : Cx} {cl : Call} {f c k : Nat} {ra : Ev} {fd : FuncData} {ps : List Str}
def evProp (cl : Call) (f c : Nat) (ra : Ev) : Ev := fun e G => (ra e G).toD.bind fun x e G => (match insOf G x with
    | some (c', _) => if c = c' then (ofRC (cl f [x] G) e).quiet else .no
    | none => .no)
def noE : XK := fun _ _ _ => False
theorem noE_passes : Passes (L2.CX X.prog X.w) X.nox noE := fun _ _ _ _ _ _ _ z => by
  obtain ⟨_, _, _, _, _, _, _, _, _, _, _, _, e⟩ := z
  exact e.elim
theorem tProp_of {Q : VK} (h : tE T Wx (evProp cl f c ra) σ H Q) : tProp (T.ca c) (spF T cl f 1) [] noE (tD T Wx fun e G => (ra e G).toD) σ H Q := by
  obtain ⟨Rs, m, G, e, g, s, h⟩ := h
  refine ⟨Rs, m, G, e, g, s, OkR.thn h fun d1 m1 e1 G1 H1 l1 g1 s1 h1 v1 dn1 => ?_⟩
  cases q : insOf G1 d1 with
  | none => rw [q] at h1; exact h1.elim
  | some z =>
    obtain ⟨c', fs⟩ := z
    rw [q] at h1
    dsimp only at h1
    by_cases ec : c = c'
    · subst ec
      rw [if_pos rfl] at h1
      rw [insOf_rd (e := e1)] at q
      obtain ⟨p, dx, xs, rfl, h3, _, _⟩ := insW_at g1 s1 (show DenW T Rs m1 e1 σ H1 (.d d1) v1 from dn1) q
      refine ⟨p, dx, _, rfl, h3, rfl, Mn.rest m1 H1, m1.bare, G1, [d1], rfl, g1.rest.sub rfl rfl, DenL.subm (m' := m1.bare) Wd.sub_bare [d1] [.ref p] ⟨_, _, rfl, dn1, rfl⟩, ?_⟩
      cases q2 : cl f [d1] G1 with
      | no => rw [q2] at h1; exact h1
      | ex x G' => rw [q2] at h1; exact h1.elim
      | ok w G' =>
        rw [q2] at h1
        exact okC_of (r := .ok w G') g1 s1 h1
    · rw [if_neg ec] at h1
      exact h1.elim
theorem x_prop {o : Expr} {mn : Str} {p : Addr} {pos : Pos} (hK : X.K = T.K) (hc : ClsL T c) (ho : PE X o (tE T Wx ra)) (hp : PropOf T.K (T.ca c) mn p (T.fa f)) (F : FnOk X.prog X.w X.K X.mg X.base (L2.CX X.prog X.w) k (T.fa f) fd ps (spF T cl f 1)) (hr : Room (k + 1) X.A) (hb : Binds X.K fd ps [])
    (hab : attributeBase o mn X.env (eval o X.env) = eval o X.env) : PE X (.Attribute o mn pos) (tE T Wx (evProp cl f c ra)) := by
  have hcls := hc.cls
  rw [← hK] at hcls hp
  exact PE.imp (pe_prop (PE.imp ho fun _ _ _ => tE_of_tD) hcls hp F hr hb .nil noE_passes hab) fun _ _ _ => tProp_of
end
end Mn
/-! Mn40: len of an instance, by its own __len__. -/
namespace Mn
open PySem PySem.Spec PyProof.Rows L2
/-- a class's own special method -/
structure SpecOf (K : PySem.W.Frag) (C : Addr) (m : Str) (f : Addr) : Prop where
  find : PySem.W.findIn K (.ref C) m = some (some (.ref f))
  fn : PySem.W.typeIn K (.ref f) = some (.type "function")
section
variable {X : Cx}
/-- a def is called somewhere below the body -/
theorem sub_call {n : Nat} {A : Around} {f : Addr} {fd : FuncData} {ps : List Str} {sp : Sp} {E : XK} (sb : Sub X n A) (F : FnOk X.prog X.w X.K X.mg X.base (L2.CX X.prog X.w) n f fd ps sp) (hb : Binds X.K fd ps []) (hx : Passes (L2.CX X.prog X.w) X E)
    {pins : List (Addr × Obj)} {s : Shared} {σ : L2.St} {H : Hp} (I : Inv X pins σ H s) {vs : List V} {us : List Value} (r : Vals vs us) {Q : VK} {Qf : Value → Shared → Prop} (h : sp vs H Q E) (fin : ∀ u s' z H', Inv X pins σ H' s' → RelV z u → Q z H' → Qf u s') :
    wpAny (model X.prog X.w) A (call (.ref f) us) Qf X.xe s := by
  have found : Env0 X.prog X.w X.K X.mg X.base A X.stack s H := { I.env0 with frames := sb.fr.trans I.env0.frames }
  have many : us.length = ps.length := r.length.symm.trans (F.len _ _ _ _ h)
  have bound : BindsTo s fd ⟨us, []⟩ (ps.zip us) := by simpa using hb s us I.kIn (by simpa using many)
  refine wpAny_call (codeAny_mono (F.run A X.stack s H ⟨us, []⟩ us vs _ E sb.room found bound r h) fun res s' got => ?_)
  match res, got with
  | .error e, got => exact hx pins σ H s e s' I got
  | .ok (.ret u), got =>
    have ⟨z, H', J, rz, q⟩ := I.after got
    exact fin u s' z H' J rz q
  | .ok .next, got => exact False.elim got
  | .ok .brk, got => exact False.elim got
  | .ok .cont, got => exact False.elim got
/-- a special method of an instance is called -/
theorem spec_call {n : Nat} {A : Around} {C f : Addr} {m : Str} {fd : FuncData} {ps : List Str} {sp : Sp} {E : XK} (sb : Sub X n A) (hs : SpecOf X.K C m f) (F : FnOk X.prog X.w X.K X.mg X.base (L2.CX X.prog X.w) n f fd ps sp) (hb : Binds X.K fd ps []) (hx : Passes (L2.CX X.prog X.w) X E)
    {pins : List (Addr × Obj)} {s : Shared} {σ : L2.St} {H : Hp} (I : Inv X pins σ H s) {a dx : Addr} {fs : List (Str × V)} (ha : H a = some (.ins C dx fs)) {vs : List V} {us : List Value} (r : Vals vs us) {Q : VK} {Qf : Option Value → Shared → Prop} (h : sp (.ref a :: vs) H Q E) (fin : ∀ u s' z H', Inv X pins σ H' s' → RelV z u → Q z H' → Qf (some u) s') :
    wpAny (model X.prog X.w) A (callSpecial? (.ref a) m us) Qf X.xe s := by
  have ⟨_, got, _⟩ := ins_get I.hok ha
  have ⟨_, at_, _⟩ := got.look
  have ty : PySem.W.Looks (model X.prog X.w) s.heap (typeOf (.ref a)) (.ref C) := at_.type
  unfold callSpecial?
  refine wpAny_bind ((ty.andThen (PySem.W.looks_findIn I.kIn hs.find)).here ?_)
  refine wpAny_holding (wpAny_bind ((PySem.W.bind_fn I.kIn (.ref a) hs.fn).here (wpAny_bind ?_)))
  exact sub_call (us := .ref a :: us) (vs := .ref a :: vs) sb F hb hx I (.cons rfl r) h fun u s' z H' I' rz q => wpAny_pure (fin u s' z H' I' rz q)
/-- len(x) -/
theorem call_lenI {n : Nat} {C f : Addr} {fd : FuncData} {ps : List Str} {sp : Sp} {E : XK} (hr : Room (n + 1) X.A) (hs : SpecOf X.K C "__len__" f) (F : FnOk X.prog X.w X.K X.mg X.base (L2.CX X.prog X.w) n f fd ps sp) (hb : Binds X.K fd ps []) (hx : Passes (L2.CX X.prog X.w) X E) :
    CallR X (.builtin "len") (fun xs H Q => ∃ a dx fs, xs = [.ref a] ∧ H a = some (.ins C dx fs) ∧ sp [.ref a] H (fun v H' => ∃ i : Int, v = .int i ∧ 0 ≤ i ∧ i < 2 ^ 63 ∧ Q (.int i) H') E) := by
  intro pins s σ H xs us Q I rv ⟨a, dx, fs, ex, ha, h⟩
  cases ex
  rw [Vals.ref1 rv]
  have special := spec_call (A := X.A.in1) (vs := []) (us := []) (s := s) ⟨hr.in1, rfl⟩ hs F hb hx I ha .nil h (Qf := fun o s' => ∃ i t H', o = some (.int i t) ∧ Inv X pins σ H' s' ∧ 0 ≤ i ∧ i < 2 ^ 63 ∧ Q (.int i) H') fun u s' z H' I' rz ⟨i, ez, h0, h1, q⟩ => by
    subst ez
    obtain ⟨t, rfl⟩ := rz
    exact ⟨i, t, H', rfl, I', h0, h1, q⟩
  refine Calls.call_function_entry kind_len plain_len entry_len (args_len1 _) (wpAny_bind (m := oneArg "len" _) (wpAny_pure (wpAny_bind (m := callSpecial? (.ref a) (Str.ofString "__len__")) (wpAny_mono special (fun o s' ⟨i, t, H', eo, I', h0, h1, q⟩ => ?_) fun _ _ e => e))))
  subst eo
  exact wpAny_bind (wpAny_holding (wpAny_pure (wpAny_bind (wpAny_letGo (wpAny_ite_false (decide_eq_false (Int.not_lt.mpr h0)) (wpAny_ite_false (decide_eq_false (Int.not_le.mpr h1)) (wpAny_bind (wpAny_mkInt (wpAny_pure ⟨_, rfl, .int i, H', I'.tok _, ⟨_, rfl⟩, q⟩)))))))))
end
section
variable {T : Tb} {Rs : Hp} {Wx : WX} {m : Wd} {σ : L2.St} {G : List O} {e : List S} {H : Hp} {X : Cx} {cl : Call} {f c k : Nat} {ra : Ev} {fd : FuncData} {ps : List Str}
def evLenI (cl : Call) (f c : Nat) (ra : Ev) : Ev := fun e G => (ra e G).toD.bind fun x e G => (match insOf G x with
    | some (c', _) => if c = c' then (ofRC (cl f [x] G) e).quiet.bind fun w e G => lenW w e G else .no
    | none => .no)
theorem tLenI_of {Q : VK} (h : tE T Wx (evLenI cl f c ra) σ H Q) : tCB (fun xs H Q => ∃ a dx fs, xs = [.ref a] ∧ H a = some (.ins (T.ca c) dx fs) ∧ spF T cl f 1 [.ref a] H (fun v H' => ∃ i : Int, v = .int i ∧ 0 ≤ i ∧ i < 2 ^ 63 ∧ Q (.int i) H') noE)
    (tCons (tD T Wx fun e G => (ra e G).toD) tNil) σ H Q := by
  obtain ⟨Rs, m, G, e, g, s, h⟩ := h
  refine ⟨Rs, m, G, e, g, s, OkR.thn h fun d1 m1 e1 G1 H1 l1 g1 s1 h1 v1 dn1 => ?_⟩
  cases q : insOf G1 d1 with
  | none => rw [q] at h1; exact h1.elim
  | some z =>
    obtain ⟨c', fs⟩ := z
    rw [q] at h1
    dsimp only at h1
    by_cases ec : c = c'
    · subst ec
      rw [if_pos rfl] at h1
      rw [insOf_rd (e := e1)] at q
      obtain ⟨p, dx, xs, rfl, h3, _, _⟩ := insW_at g1 s1 (show DenW T Rs m1 e1 σ H1 (.d d1) v1 from dn1) q
      refine ⟨p, dx, _, rfl, h3, rfl, Mn.rest m1 H1, m1.bare, G1, [d1], rfl, g1.rest.sub rfl rfl, DenL.subm (m' := m1.bare) Wd.sub_bare [d1] [.ref p] ⟨_, _, rfl, dn1, rfl⟩, ?_⟩
      cases q2 : cl f [d1] G1 with
      | no => rw [q2] at h1; exact h1
      | ex x G' => rw [q2] at h1; exact h1.elim
      | ok w G' =>
        rw [q2] at h1
        cases w with
        | d x =>
          cases x with
          | int i =>
            have h2 : OkR T Rs Wx m1 σ (if decide (0 ≤ i) && decide (i < 2 ^ 63) then .ok (.d (.int i)) e1 G' else .no) fun w m' e' G' H' => ∀ v, DenW T Rs m' e' σ H' w v → Q v H' := h1
            cases hb : (decide (0 ≤ i) && decide (i < 2 ^ 63)) with
            | false => rw [hb] at h2; exact h2.elim
            | true =>
              rw [hb] at h2
              simp only [Bool.and_eq_true, decide_eq_true_eq] at hb
              exact okC_of (Wx := Wx) (r := .ok (.d (.int i)) G') g1 s1 fun m' H' l' g' s' v dv => ⟨i, dv, hb.1, hb.2, h2 m' H' l' g' s' _ rfl⟩
          | _ => exact h1.elim
        | _ => exact h1.elim
    · rw [if_neg ec] at h1
      exact h1.elim
theorem x_lenI {a : Expr} {p pos : Pos} (hK : X.K = T.K) (hg : Gl X "len") (hm : X.mg "len" = none) (hv : bootBuiltins "len" = some (.builtin "len")) (ha : PE X a (tE T Wx ra)) (hs : Meth T.K (T.ca c) "__len__" (T.fa f)) (F : FnOk X.prog X.w X.K X.mg X.base (L2.CX X.prog X.w) k (T.fa f) fd ps (spF T cl f 1)) (hr : Room (k + 1) X.A) (hb : Binds X.K fd ps [])
    (hst : starEach [a] X.env = (false, eval a X.env) :: starEach [] X.env) : PE X (.Call (.Name "len" p) [a] [] pos) (tE T Wx (evLenI cl f c ra)) := by
  have hx : Passes (L2.CX X.prog X.w) X noE := fun _ _ _ _ _ _ _ z => by
    obtain ⟨_, _, _, _, _, _, _, _, _, _, _, _, e⟩ := z
    exact e.elim
  have sp : SpecOf X.K (T.ca c) "__len__" (T.fa f) := by
    rw [hK]
    refine ⟨hs.at_, ?_⟩
    have := hs.fn
    unfold PySem.W.isFn at this
    exact eq_of_beq this
  exact PE.imp (pe_callB (call_lenI hr sp F hb hx) hg hm hv (pa_cons (PE.imp ha fun _ _ _ => tE_of_tD) pa_nil hst) (by decide) (by decide) hst) fun σ H Q => tLenI_of
end
end Mn
/-! Mn21: a checked expression tells its text. -/
namespace Mn
open PySem PySem.Spec PyProof.Rows L2
section
variable {T : Tb} {k : Ck} {gl : Nat → W} {cl : Call} {n : Nat}
theorem boot_len' : bootBuiltins "len" = some (.builtin "len") := by decide +kernel
theorem boot_any' : bootBuiltins "any" = some (.builtin "any") := by decide +kernel
theorem boot_min' : bootBuiltins "min" = some (.builtin "min") := by decide +kernel
theorem boot_max' : bootBuiltins "max" = some (.builtin "max") := by decide +kernel
theorem boot_one : ∀ {t : Ty} {y : String}, t.one = some y → bootBuiltins (Str.ofString y) = some (.type y) ∧ (Str.ofString y) ≠ "__name__" := fun {t y} h => by
  cases t <;> first | (cases h; exact ⟨by decide +kernel, by decide⟩) | cases h
theorem b1_ok {Wx : WX} {X : Cx} {s : Sx} (C : Cg T k gl cl n Wx X s) {b : B1} {w : Str} {fv : Value} (h : b1fn b = some (w, fv)) :
    bootBuiltins w = some fv ∧ w ≠ "__name__" ∧ ((∃ id, fv = .builtin id) ∨ ∃ id, fv = .type id) ∧ CallR X fv (rB1 T b) := by
  cases b <;> first
    | (cases h; exact ⟨by decide +kernel, by decide, .inl ⟨_, rfl⟩, c_len C.K⟩)
    | (cases h; exact ⟨by decide +kernel, by decide, .inl ⟨_, rfl⟩, c_all C.calm⟩)
    | (cases h; exact ⟨by decide +kernel, by decide, .inl ⟨_, rfl⟩, c_any C.calm⟩)
    | (cases h; exact ⟨by decide +kernel, by decide, .inl ⟨_, rfl⟩, c_sum C.calm⟩)
    | (cases h; exact ⟨by decide +kernel, by decide, .inl ⟨_, rfl⟩, c_abs⟩)
    | (cases h; exact ⟨by decide +kernel, by decide, .inr ⟨_, rfl⟩, c_tup C.K⟩)
    | (cases h; exact ⟨by decide +kernel, by decide, .inr ⟨_, rfl⟩, c_list C.K C.calm⟩)
    | (cases h; exact ⟨by decide +kernel, by decide, .inr ⟨_, rfl⟩, c_int⟩)
    | (cases h; exact ⟨by decide +kernel, by decide, .inl ⟨_, rfl⟩, c_sorted C.K C.u⟩)
    | (cases h; exact ⟨by decide +kernel, by decide, .inl ⟨_, rfl⟩, c_minL C.K C.calm C.u⟩)
    | (cases h; exact ⟨by decide +kernel, by decide, .inl ⟨_, rfl⟩, c_maxL C.K C.calm C.u⟩)
    | cases h
def SndE (T : Tb) (k : Ck) (gl : Nat → W) (cl : Call) (n : Nat) (t : E) : Prop := ∀ (Wx : WX) (X : Cx) (s : Sx), Cg T k gl cl n Wx X s → (∀ ex, chk k t s false ex = true → PE X ex (tE T Wx (evE cl gl t))) ∧ ∀ ex, chk k t s true ex = true → PT X ex (tBo T Wx fun e G => (evE cl gl t e G).toB)
def SndEs (T : Tb) (k : Ck) (gl : Nat → W) (cl : Call) (n : Nat) (t : Es) : Prop := ∀ (Wx : WX) (X : Cx) (s : Sx), Cg T k gl cl n Wx X s → ∀ es, chks k t s es = true → EsOk T Wx X es (evEs cl gl t) ∧ es.length = t.len
def SndEo (T : Tb) (k : Ck) (gl : Nat → W) (cl : Call) (n : Nat) (t : Eo) : Prop := ∀ (Wx : WX) (X : Cx) (s : Sx), Cg T k gl cl n Wx X s → (∀ o, chko k t s o = true → PO X o (tP T Wx (evEo cl gl t))) ∧ ∀ cs, chkt k t s cs = true → PTs X cs (tBo T Wx (evT cl gl t))
def SndI0 (T : Tb) (k : Ck) (gl : Nat → W) (cl : Call) (n : Nat) (t : It) : Prop := ∀ (Wx : WX) (X : Cx) (s : Sx), Cg T k gl cl n Wx X s → ∀ tg i, chki k t s tg i = true → PI X tg i (tI T Wx (evI cl gl t))
def SndI (T : Tb) (k : Ck) (gl : Nat → W) (cl : Call) (n : Nat) (t : It) : Prop := ∀ (Wx : WX) (X : Cx) (s : Sx), Cg T k gl cl n Wx X s → ∀ tg i, chki k t s tg i = true → PI X tg i (tJ T Wx (evI cl gl t)) ∧ (t.isOwnl = false → PI X tg i (tI T Wx (evI cl gl t)))
theorem SndI0.of {t : It} (h : SndI0 T k gl cl n t) : SndI T k gl cl n t := fun Wx X s C tg i q => ⟨Mn.PI.toJ (h Wx X s C tg i q), fun _ => h Wx X s C tg i q⟩
theorem snd_var {i : Nat} : SndE T k gl cl n (.var i) := fun Wx X s C => both fun b ex h => by
  have h' : (match asName ex with | some (x, _) => visOk k s i x | none => false) = true := h
  cases q : asName ex with
  | none => rw [q] at h'; cases h'
  | some z =>
    rw [q] at h'
    rw [asName_eq q]
    obtain ⟨a, b, c, d⟩ := C.vis_ h'
    exact ⟨x_var a b c d, rfl⟩
theorem snd_own {i : Nat} : SndE T k gl cl n (.own i) := fun Wx X s C => both fun b ex h => by
  have h' : (match asName ex with | some (x, _) => visOk k s i x | none => false) = true := h
  cases q : asName ex with
  | none => rw [q] at h'; cases h'
  | some z =>
    rw [q] at h'
    rw [asName_eq q]
    obtain ⟨a, b, c, d⟩ := C.vis_ h'
    exact ⟨x_own a b c d, rfl⟩
theorem snd_kI {i : Int} : SndE T k gl cl n (.kI i) := fun Wx X s C => both fun b ex h => by
  have h' : (match asCon ex with | some (.int j, _, _) => i == j | _ => false) = true := h
  split at h'
  · rename_i q
    rw [asCon_eq q]
    have := eq_of_beq h'
    subst this
    exact ⟨x_c (d := .int i) pe_int (fun _ => rfl), rfl⟩
  · cases h'
theorem snd_kS {i : Str} : SndE T k gl cl n (.kS i) := fun Wx X s C => both fun b ex h => by
  have h' : (match asCon ex with | some (.str j, _, _) => i == j | _ => false) = true := h
  split at h'
  · rename_i q
    rw [asCon_eq q]
    have := eq_of_beq h'
    subst this
    exact ⟨x_c (d := .str i) pe_str (fun _ => rfl), rfl⟩
  · cases h'
theorem snd_kB {i : Bool} : SndE T k gl cl n (.kB i) := fun Wx X s C => both fun b ex h => by
  have h' : (match asCon ex with | some (.bool j, _, _) => i == j | _ => false) = true := h
  split at h'
  · rename_i q
    rw [asCon_eq q]
    have := eq_of_beq h'
    subst this
    exact ⟨x_c (d := .bl i) pe_bl (fun _ => rfl), rfl⟩
  · cases h'
theorem snd_kN : SndE T k gl cl n .kN := fun Wx X s C => both fun b ex h => by
  have h' : (match asCon ex with | some (.none, _, _) => true | _ => false) = true := h
  split at h'
  · rename_i q
    rw [asCon_eq q]
    exact ⟨x_c (d := .non) pe_non (fun _ => rfl), rfl⟩
  · cases h'
theorem snd_glb {i : Nat} : SndE T k gl cl n (.glb i) := fun Wx X s C => both fun b ex h => by
  have h' : (match asName ex with | some (x, _) => glOk s x && (match k.gn.lookup x with | some m => i == m | none => false) | none => false) = true := h
  cases q : asName ex with
  | none => rw [q] at h'; cases h'
  | some z =>
    rw [q] at h'
    dsimp only at h'
    rw [Bool.and_eq_true] at h'
    rw [asName_eq q]
    obtain ⟨a, b⟩ := C.gl_ h'.1
    have h2 := h'.2
    split at h2
    · rename_i m q2
      have := eq_of_beq h2
      subst this
      obtain ⟨v, u, e1, e2, e3⟩ := C.lk.gn _ _ q2
      exact ⟨x_glb a e1 e2 b e3, rfl⟩
    · cases h2
theorem sz_most {n : Nat} (h : n ≤ 1000) {m : Nat} (q : m ≤ n + 100000) : m ≤ sizeLine := by
  have e : (sizeLine : Nat) = 16777216 := sizeLine_eq
  omega
theorem x_tupM {es : List Expr} {n : Nat} {pos : Pos} {r : List S → List O → R (List D)} (h : PA X es (tDs T Wx r)) (hl : es.length ≤ 1000) (hlen : ∀ e G xs e' G', r e G = .ok xs e' G' → xs.length ≤ es.length + 100000) :
    PE X (.Tuple es n pos) (tE T Wx fun e G => (r e G).bind fun xs e G => .ok (.d (.tup xs)) e G) := by
  refine PE.imp (pe_tup h) fun σ H Q ⟨Rs, m, G, e, g, s, h⟩ => ⟨Rs, m, G, e, g, s, ?_⟩
  dsimp only at h
  cases q : r e G with
  | no => rw [q] at h; exact h
  | ex x e' G' => rw [q] at h; exact h
  | ok xs e' G' =>
    rw [q] at h
    intro m1 H1 l1 g1 s1 vs dl
    refine ⟨by rw [← dl.length]; exact sz_most hl (hlen _ _ _ _ _ q), fun p hp => ?_⟩
    obtain ⟨m2, l2, g2, s2, dn⟩ := new_tup g1 s1 hp dl
    exact h m2 _ (l1.trans l2) g2 s2 _ dn
theorem x_lstM {es : List Expr} {pos : Pos} {r : List S → List O → R (List D)} (h : PA X es (tDs T Wx r)) (hl : es.length ≤ 1000) (hlen : ∀ e G xs e' G', r e G = .ok xs e' G' → xs.length ≤ es.length + 100000) :
    PE X (.List es pos) (tE T Wx fun e G => (r e G).bind fun xs e G => .ok (.f (.lst xs)) e G) := by
  refine PE.imp (pe_lst h) fun σ H Q ⟨Rs, m, G, e, g, s, h⟩ => ⟨Rs, m, G, e, g, s, ?_⟩
  dsimp only at h
  cases q : r e G with
  | no => rw [q] at h; exact h
  | ex x e' G' => rw [q] at h; exact h
  | ok xs e' G' =>
    rw [q] at h
    intro m1 H1 l1 g1 s1 vs dl
    refine ⟨by rw [← dl.length]; exact sz_most hl (hlen _ _ _ _ _ q), fun p hp => ?_⟩
    obtain ⟨g2, s2, dn⟩ := new_lst g1 s1 hp dl
    exact h m1 _ l1 g2 s2 _ dn
theorem snd_tup {es : Es} (ih : SndEs T k gl cl n es) : SndE T k gl cl n (.tup es) := fun Wx X s C => both fun b ex h => by
  have h' : (match asTup ex with | some (xs, _, _) => chks k es s xs && decide (xs.length ≤ 1000) | none => false) = true := h
  cases q : asTup ex with
  | none => rw [q] at h'; cases h'
  | some z =>
    rw [q] at h'
    dsimp only at h'
    rw [Bool.and_eq_true] at h'
    rw [asTup_eq q]
    obtain ⟨ok, _⟩ := ih Wx X s C _ h'.1
    have hl := of_decide_eq_true h'.2
    exact ⟨x_tupM (ok.pa C.K) hl ok.most, rfl⟩
theorem snd_lst {es : Es} (ih : SndEs T k gl cl n es) : SndE T k gl cl n (.lst es) := fun Wx X s C => both fun b ex h => by
  have h' : (match asLst ex with | some (xs, _) => chks k es s xs && decide (xs.length ≤ 1000) | none => false) = true := h
  cases q : asLst ex with
  | none => rw [q] at h'; cases h'
  | some z =>
    rw [q] at h'
    dsimp only at h'
    rw [Bool.and_eq_true] at h'
    rw [asLst_eq q]
    obtain ⟨ok, _⟩ := ih Wx X s C _ h'.1
    have hl := of_decide_eq_true h'.2
    exact ⟨x_lstM (ok.pa C.K) hl ok.most, rfl⟩
theorem snd_d1 {t : Bool} {a c : E} (ia : SndE T k gl cl n a) (ic : SndE T k gl cl n c) : SndE T k gl cl n (.d1 t a c) := fun Wx X s C => both fun b ex h => by
  have h' : (match asDict ex with | some ([some x], [y], _) => chk k a s false x && chk k c s false y | _ => false) = true := h
  split at h'
  · rename_i x y p q
    rw [Bool.and_eq_true] at h'
    rw [asDict_eq q]
    exact ⟨x_d1 (Nat.lt_of_le_of_lt (by omega) C.u) ((ia Wx X s C).1 _ h'.1) ((ic Wx X s C).1 _ h'.2), rfl⟩
  · cases h'
theorem snd_dct0 {t : Bool} : SndE T k gl cl n (.dct0 t) := fun Wx X s C => both fun b ex h => by
  have h' : (match asDict ex with | some ([], [], _) => true | _ => false) = true := h
  split at h'
  · rename_i q
    rw [asDict_eq q]
    exact ⟨x_dct0, rfl⟩
  · cases h'
theorem snd_dctK {zs : List Str} {es : Es} (ih : SndEs T k gl cl n es) : SndE T k gl cl n (.dctK zs es) := fun Wx X s C => both fun b ex h => by
  have h' : (match asDict ex with | some (ks, vs, _) => decide (strK ks = some zs) && decide (ks.length = vs.length) && !ks.isEmpty && decide (ks.length ≤ 15) && chks k es s vs && vs.all plain | none => false) = true := h
  cases q : asDict ex with
  | none => rw [q] at h'; cases h'
  | some z =>
    obtain ⟨ks, vs, p⟩ := z
    rw [q] at h'
    simp only [Bool.and_eq_true, decide_eq_true_eq, Bool.not_eq_true'] at h'
    obtain ⟨⟨⟨⟨⟨h1, h2⟩, h3⟩, h4⟩, h5⟩, hpl⟩ := h'
    rw [asDict_eq q]
    obtain ⟨ok, _⟩ := ih Wx X s C _ h5
    obtain ⟨trs, pd⟩ := ok.ppd hpl (pos := p) h1 h2
    exact ⟨x_dct pd (fun z => by subst z; cases h3) h4, rfl⟩
theorem snd_glo {a : E} (ih : SndE T k gl cl n a) : SndE T k gl cl n (.glo a) := fun Wx X s C => ⟨fun ex h => by
  have h' : (!false && chk k a s false ex) = true := h
  exact x_glo ((ih Wx X s C).1 ex (by simpa using h')), fun ex h => by
  have h' : (!true && chk k a s false ex) = true := h
  cases h'⟩
theorem snd_bin {op : BOp} {a c : E} (ia : SndE T k gl cl n a) (ic : SndE T k gl cl n c) : SndE T k gl cl n (.bin op a c) := fun Wx X s C => both fun b ex h => by
  have h' : (match asBin ex with | some (x, o, y, _) => decide (o = op.py) && chk k a s false x && chk k c s false y | none => false) = true := h
  cases q : asBin ex with
  | none => rw [q] at h'; cases h'
  | some z =>
    obtain ⟨x, o, y, p⟩ := z
    rw [q] at h'
    simp only [Bool.and_eq_true, decide_eq_true_eq] at h'
    obtain ⟨⟨rfl, h2⟩, h3⟩ := h'
    rw [asBin_eq q]
    exact ⟨x_bin C.K ((ia Wx X s C).1 _ h2) ((ic Wx X s C).1 _ h3), rfl⟩
theorem snd_neg {a : E} (ia : SndE T k gl cl n a) : SndE T k gl cl n (.neg a) := fun Wx X s C => both fun b ex h => by
  have h' : (match asUn ex with | some (.USub, x, _) => chk k a s false x | _ => false) = true := h
  split at h'
  · rename_i q
    rw [asUn_eq q]
    exact ⟨x_neg ((ia Wx X s C).1 _ h'), rfl⟩
  · cases h'
theorem snd_cmp {op : COp} {a c : E} (ia : SndE T k gl cl n a) (ic : SndE T k gl cl n c) : SndE T k gl cl n (.cmp op a c) := fun Wx X s C => by
  have go : ∀ b ex, chk k (.cmp op a c) s b ex = true → ∃ x y p, ex = .Compare x [op.py] [y] p ∧ noSet y = true ∧ PE X x (tE T Wx (evE cl gl a)) ∧ PE X y (tE T Wx (evE cl gl c)) := fun b ex h => by
    have h' : (match asCmp ex with | some (x, [o], [y], _) => decide (o = op.py) && noSet y && chk k a s false x && chk k c s false y | _ => false) = true := h
    split at h'
    · rename_i q
      simp only [Bool.and_eq_true, decide_eq_true_eq] at h'
      obtain ⟨⟨⟨rfl, h2⟩, h3⟩, h4⟩ := h'
      exact ⟨_, _, _, asCmp_eq q, h2, (ia Wx X s C).1 _ h3, (ic Wx X s C).1 _ h4⟩
    · cases h'
  exact ⟨fun ex h => by
    obtain ⟨x, y, p, rfl, hs, h1, h2⟩ := go _ ex h
    exact x_cmp C.K C.u h1 h2 (noset hs), fun ex h => by
    obtain ⟨x, y, p, rfl, hs, h1, h2⟩ := go _ ex h
    exact t_cmp C.K C.u h1 h2 (noset hs)⟩
theorem snd_cmo {neg : Bool} {a c : E} (ia : SndE T k gl cl n a) (ic : SndE T k gl cl n c) : SndE T k gl cl n (.cmo neg a c) := fun Wx X s C => by
  have go : ∀ b ex, chk k (.cmo neg a c) s b ex = true → ∃ x y p, ex = .Compare x [if neg then .NotEq else .Eq] [y] p ∧ noSet y = true ∧ PE X x (tE T Wx (evE cl gl a)) ∧ PE X y (tE T Wx (evE cl gl c)) := fun b ex h => by
    have h' : (match asCmp ex with | some (x, [o], [y], _) => decide (o = if neg then .NotEq else .Eq) && noSet y && chk k a s false x && chk k c s false y | _ => false) = true := h
    split at h'
    · rename_i q
      simp only [Bool.and_eq_true, decide_eq_true_eq] at h'
      obtain ⟨⟨⟨h1, h2⟩, h3⟩, h4⟩ := h'
      subst h1
      exact ⟨_, _, _, asCmp_eq q, h2, (ia Wx X s C).1 _ h3, (ic Wx X s C).1 _ h4⟩
    · cases h'
  exact ⟨fun ex h => by
    obtain ⟨x, y, p, rfl, hs, h1, h2⟩ := go _ ex h
    exact x_cmo C.K C.u h1 h2 (noset hs), fun ex h => by
    obtain ⟨x, y, p, rfl, hs, h1, h2⟩ := go _ ex h
    exact t_cmo C.K C.u h1 h2 (noset hs)⟩
theorem snd_chn {o1 o2 : COp} {a c d : E} (ia : SndE T k gl cl n a) (ic : SndE T k gl cl n c) (id' : SndE T k gl cl n d) : SndE T k gl cl n (.chn o1 o2 a c d) := fun Wx X s C => by
  have go : ∀ b ex, chk k (.chn o1 o2 a c d) s b ex = true → ∃ x y z p, ex = .Compare x [o1.py, o2.py] [y, z] p ∧ lastMarks [o1.py, o2.py] [y, z] = false ∧ PE X x (tE T Wx (evE cl gl a)) ∧ PE X y (tE T Wx (evE cl gl c)) ∧ PE X z (tE T Wx (evE cl gl d)) := fun b ex h => by
    have h' : (match asCmp ex with | some (x, [p1, p2], [y, z], _) => decide (p1 = o1.py) && decide (p2 = o2.py) && noSet z && chk k a s false x && chk k c s false y && chk k d s false z | _ => false) = true := h
    split at h'
    · rename_i q
      simp only [Bool.and_eq_true, decide_eq_true_eq] at h'
      obtain ⟨⟨⟨⟨⟨rfl, rfl⟩, h2⟩, h3⟩, h4⟩, h5⟩ := h'
      exact ⟨_, _, _, _, asCmp_eq q, noset h2, (ia Wx X s C).1 _ h3, (ic Wx X s C).1 _ h4, (id' Wx X s C).1 _ h5⟩
    · cases h'
  exact ⟨fun ex h => by
    obtain ⟨x, y, z, p, rfl, hs, h1, h2, h3⟩ := go _ ex h
    exact x_chn C.K C.u h1 h2 h3 hs, fun ex h => by
    obtain ⟨x, y, z, p, rfl, hs, h1, h2, h3⟩ := go _ ex h
    exact t_chn C.K C.u h1 h2 h3 hs⟩
theorem snd_not {a : E} (ia : SndE T k gl cl n a) : SndE T k gl cl n (.not a) := fun Wx X s C => by
  refine ⟨fun ex h => ?_, fun ex h => ?_⟩
  · have h' : (match asUn ex with | some (.Not, x, _) => chk k a s false x | _ => false) = true := h
    split at h'
    · rename_i q
      rw [asUn_eq q]
      exact x_not ((ia Wx X s C).1 _ h')
    · cases h'
  · have h' : (match asUn ex with | some (.Not, x, _) => chk k a s true x | _ => false) = true := h
    split at h'
    · rename_i q
      rw [asUn_eq q]
      exact t_not ((ia Wx X s C).2 _ h')
    · cases h'
theorem snd_and {a c : E} (ia : SndE T k gl cl n a) (ic : SndE T k gl cl n c) : SndE T k gl cl n (.and a c) := fun Wx X s C => by
  have go : ∀ b ex, chk k (.and a c) s b ex = true → ∃ x y rest p, ex = .BoolOp .And (x :: y :: rest) p ∧ chk k a s b x = true ∧ ((rest = [] ∧ chk k c s b y = true) ∨ chk k c s b (.BoolOp .And (y :: rest) p) = true) := fun b ex h => by
    have h' : (match asBoo ex with
      | some (.And, x :: y :: rest, p) => chk k a s b x && (match rest with | [] => chk k c s b y | _ => chk k c s b (.BoolOp .And (y :: rest) p))
      | _ => false) = true := h
    split at h'
    · rename_i x y rest p q
      rw [Bool.and_eq_true] at h'
      refine ⟨x, y, rest, p, asBoo_eq q, h'.1, ?_⟩
      cases rest with
      | nil => exact .inl ⟨rfl, h'.2⟩
      | cons _ _ => exact .inr h'.2
    · cases h'
  refine ⟨fun ex h => ?_, fun ex h => ?_⟩
  · obtain ⟨x, y, rest, p, rfl, h1, h2⟩ := go _ ex h
    refine x_and ((ia Wx X s C).1 _ h1) ?_
    rcases h2 with ⟨rfl, h2⟩ | h2
    · exact x_one ((ic Wx X s C).1 _ h2)
    · exact (ic Wx X s C).1 _ h2
  · obtain ⟨x, y, rest, p, rfl, h1, h2⟩ := go _ ex h
    refine pt_of_pw (w_and ((ia Wx X s C).2 _ h1) ?_)
    rcases h2 with ⟨rfl, h2⟩ | h2
    · exact w_and1 ((ic Wx X s C).2 _ h2)
    · exact ⟨fun wh pins s' σ H Q I q => ((ic Wx X s C).2 _ h2).run pins s' σ H Q I q⟩
theorem snd_or {a c : E} (ia : SndE T k gl cl n a) (ic : SndE T k gl cl n c) : SndE T k gl cl n (.or a c) := fun Wx X s C => by
  have go : ∀ b ex, chk k (.or a c) s b ex = true → ∃ x y rest p, ex = .BoolOp .Or (x :: y :: rest) p ∧ chk k a s b x = true ∧ ((rest = [] ∧ chk k c s b y = true) ∨ chk k c s b (.BoolOp .Or (y :: rest) p) = true) := fun b ex h => by
    have h' : (match asBoo ex with
      | some (.Or, x :: y :: rest, p) => chk k a s b x && (match rest with | [] => chk k c s b y | _ => chk k c s b (.BoolOp .Or (y :: rest) p))
      | _ => false) = true := h
    split at h'
    · rename_i x y rest p q
      rw [Bool.and_eq_true] at h'
      refine ⟨x, y, rest, p, asBoo_eq q, h'.1, ?_⟩
      cases rest with
      | nil => exact .inl ⟨rfl, h'.2⟩
      | cons _ _ => exact .inr h'.2
    · cases h'
  refine ⟨fun ex h => ?_, fun ex h => ?_⟩
  · obtain ⟨x, y, rest, p, rfl, h1, h2⟩ := go _ ex h
    refine x_or ((ia Wx X s C).1 _ h1) ?_
    rcases h2 with ⟨rfl, h2⟩ | h2
    · exact x_one ((ic Wx X s C).1 _ h2)
    · exact (ic Wx X s C).1 _ h2
  · obtain ⟨x, y, rest, p, rfl, h1, h2⟩ := go _ ex h
    refine pt_of_pw (w_or ((ia Wx X s C).2 _ h1) ?_)
    rcases h2 with ⟨rfl, h2⟩ | h2
    · exact w_or1 ((ic Wx X s C).2 _ h2)
    · exact ⟨fun wh pins s' σ H Q I q => ((ic Wx X s C).2 _ h2).run pins s' σ H Q I q⟩
theorem snd_ite {c a d : E} (ic : SndE T k gl cl n c) (ia : SndE T k gl cl n a) (id' : SndE T k gl cl n d) : SndE T k gl cl n (.ite c a d) := fun Wx X s C => ⟨fun ex h => by
  have h' : (match asIf ex with | some (t, x, y, _) => !false && chk k c s true t && chk k a s false x && chk k d s false y | none => false) = true := h
  cases q : asIf ex with
  | none => rw [q] at h'; cases h'
  | some z =>
    rw [q] at h'
    simp only [Bool.and_eq_true, Bool.not_false, true_and] at h'
    rw [asIf_eq q]
    exact x_ite ((ic Wx X s C).2 _ h'.1.1) ((ia Wx X s C).1 _ h'.1.2) ((id' Wx X s C).1 _ h'.2), fun ex h => by
  have h' : (match asIf ex with | some (t, x, y, _) => !true && chk k c s true t && chk k a s false x && chk k d s false y | none => false) = true := h
  cases q : asIf ex with
  | none => rw [q] at h'; cases h'
  | some z => rw [q] at h'; simp at h'⟩
theorem snd_ix {a i : E} (ia : SndE T k gl cl n a) (ii : SndE T k gl cl n i) : SndE T k gl cl n (.ix a i) := fun Wx X s C => both fun b ex h => by
  have h' : (match asSub ex with | some (x, y, _) => (asSlc y).isNone && chk k a s false x && chk k i s false y | none => false) = true := h
  cases q : asSub ex with
  | none => rw [q] at h'; cases h'
  | some z =>
    rw [q] at h'
    simp only [Bool.and_eq_true, Option.isNone_iff_eq_none] at h'
    rw [asSub_eq q]
    exact ⟨x_ix C.K ((ia Wx X s C).1 _ h'.1.2) ((ii Wx X s C).1 _ h'.2) (subs_plain h'.1.1), rfl⟩
theorem snd_dix {a i : E} (ia : SndE T k gl cl n a) (ii : SndE T k gl cl n i) : SndE T k gl cl n (.dix a i) := fun Wx X s C => both fun b ex h => by
  have h' : (match asSub ex with | some (x, y, _) => (asSlc y).isNone && chk k a s false x && chk k i s false y | none => false) = true := h
  cases q : asSub ex with
  | none => rw [q] at h'; cases h'
  | some z =>
    rw [q] at h'
    simp only [Bool.and_eq_true, Option.isNone_iff_eq_none] at h'
    rw [asSub_eq q]
    exact ⟨x_dix C.u ((ia Wx X s C).1 _ h'.1.2) ((ii Wx X s C).1 _ h'.2) (subs_plain h'.1.1), rfl⟩
theorem snd_sl {a : E} {lo hi : Eo} (ia : SndE T k gl cl n a) (il : SndEo T k gl cl n lo) (ih : SndEo T k gl cl n hi) : SndE T k gl cl n (.sl a lo hi) := fun Wx X s C => both fun b ex h => by
  have h' : (match asSub ex with
    | some (x, y, _) => (match asSlc y with
      | some (l, h, none, _) => chk k a s false x && chko k lo s l && chko k hi s h
      | _ => false)
    | none => false) = true := h
  cases q : asSub ex with
  | none => rw [q] at h'; cases h'
  | some z =>
    obtain ⟨x, y, p⟩ := z
    rw [q] at h'
    dsimp only at h'
    split at h'
    · rename_i q2
      simp only [Bool.and_eq_true] at h'
      rw [asSub_eq q]
      dsimp only
      rw [asSlc_eq q2]
      exact ⟨x_sl C.K ((ia Wx X s C).1 _ h'.1.1) ((il Wx X s C).1 _ h'.1.2) ((ih Wx X s C).1 _ h'.2), rfl⟩
    · cases h'
theorem snd_rev {a : E} (ia : SndE T k gl cl n a) : SndE T k gl cl n (.rev a) := fun Wx X s C => both fun b ex h => by
  have h' : (match asSub ex with
    | some (x, y, _) => (match asSlc y with
      | some (none, none, some z, _) => (match asUn z with
        | some (.USub, o, _) => (match asCon o with
          | some (.int 1, _, _) => chk k a s false x
          | _ => false)
        | _ => false)
      | _ => false)
    | none => false) = true := h
  cases q : asSub ex with
  | none => rw [q] at h'; cases h'
  | some z =>
    obtain ⟨x, y, p⟩ := z
    rw [q] at h'
    dsimp only at h'
    split at h'
    · rename_i q2
      split at h'
      · rename_i q3
        split at h'
        · rename_i q4
          rw [asSub_eq q]
          dsimp only
          rw [asSlc_eq q2]
          dsimp only
          rw [asUn_eq q3]
          dsimp only
          rw [asCon_eq q4]
          exact ⟨x_rev C.K ((ia Wx X s C).1 _ h'), rfl⟩
        · cases h'
      · cases h'
    · cases h'
theorem snd_fld {a : E} {c m : Nat} (ia : SndE T k gl cl n a) : SndE T k gl cl n (.fld a c m) := fun Wx X s C => both fun b ex h => by
  have h' : (match asAtt ex with | some (x, f, _) => decide ((k.fl c)[m]? = some f) && noSuper x && chk k a s false x | none => false) = true := h
  cases q : asAtt ex with
  | none => rw [q] at h'; cases h'
  | some z =>
    obtain ⟨x, f, p⟩ := z
    rw [q] at h'
    simp only [Bool.and_eq_true, decide_eq_true_eq] at h'
    rw [asAtt_eq q]
    have hf := h'.1.1
    rw [C.lk.fl] at hf
    exact ⟨x_fld C.K (C.lk.cls c) hf ((ia Wx X s C).1 _ h'.2) (nosup h'.1.2), rfl⟩
theorem snd_call {f : Nat} {es : Es} (ih : SndEs T k gl cl n es) : SndE T k gl cl n (.call f es) := fun Wx X s C => both fun b ex h => by
  have h' : (match asCal ex with
    | some (x, as, [], _) => (match asName x with
      | some (y, _) => glOk s y && decide (k.fn.lookup y = some f) && decide (f < k.nf) && decide (k.ini f = none) && decide (es.len = k.np f) && as.all plain && chks k es s as
      | none => false)
    | _ => false) = true := h
  split at h'
  · rename_i x as p q
    cases q2 : asName x with
    | none => rw [q2] at h'; cases h'
    | some z =>
      obtain ⟨y, p2⟩ := z
      rw [q2] at h'
      simp only [Bool.and_eq_true, decide_eq_true_eq] at h'
      obtain ⟨⟨⟨⟨⟨⟨h1, h2⟩, h3⟩, h4⟩, h5⟩, h6⟩, h7⟩ := h'
      obtain ⟨g1, g2⟩ := C.gl_ h1
      obtain ⟨f1, f2⟩ := C.lk.fn y f h2
      obtain ⟨fd, ps, hb, F, _⟩ := C.fk f h3
      obtain ⟨ok, el⟩ := ih Wx X s C as h7
      have hl : Len (evEs cl gl es) (k.np f) := by rw [← h5, ← el]; exact ok.len h6
      rw [asCal_eq q]
      dsimp only
      rw [asName_eq q2]
      refine ⟨?_, rfl⟩
      have kk : PySem.W.keepIn X.K (.ref (T.fa f)) = true := by rw [C.K]; exact f2
      have bb : Binds X.K fd ps [] := by rw [C.K]; exact hb
      have FF := F h4
      rw [← C.K] at FF
      cases as with
      | nil =>
        cases es with
        | nil => exact x_call0 hl FF (Mn.Room.less C.room (Nat.le_succ n)) g1 f1 kk bb C.tk rfl g2
        | cons _ _ => cases h7
        | star _ _ => cases h7
      | cons e r =>
        rw [List.all_cons, Bool.and_eq_true] at h6
        exact x_call hl FF (Mn.Room.less C.room (Nat.le_succ n)) g1 f1 kk bb C.tk (ok.pa C.K) g2 (star_cons h6.1) (star_any h6.2)
  · cases h'
theorem snd_mth {a : E} {c f : Nat} {es : Es} (ia : SndE T k gl cl n a) (ih : SndEs T k gl cl n es) : SndE T k gl cl n (.mth a c f es) := fun Wx X s C => both fun b ex h => by
  have h' : (match asCal ex with
    | some (x, as, [], p) => (match asAtt x with
      | some (o, mn, ap) => noSuper o && decide ((c, mn, f) ∈ k.mt) && decide (f < k.nf) && decide (k.ini f = none) && decide (es.len + 1 = k.np f) && as.all plain && decide (as.length < 30) && (ap.endLine == p.line) && chk k a s false o && chks k es s as
      | none => false)
    | _ => false) = true := h
  split at h'
  · rename_i x as p q
    cases q2 : asAtt x with
    | none => rw [q2] at h'; cases h'
    | some z =>
      obtain ⟨o, mn, ap⟩ := z
      rw [q2] at h'
      simp only [Bool.and_eq_true, decide_eq_true_eq] at h'
      obtain ⟨⟨⟨⟨⟨⟨⟨⟨⟨h1, h2⟩, h3⟩, h4⟩, h5⟩, h6⟩, h7⟩, h8⟩, h9⟩, h10⟩ := h'
      obtain ⟨M, hf⟩ := C.lk.mt c mn f h2
      obtain ⟨fd, ps, hb, F, _⟩ := C.fk f h3
      obtain ⟨ok, el⟩ := ih Wx X s C as h10
      have hl : Len (evEs cl gl es) es.len := by rw [← el]; exact ok.len h6
      rw [asCal_eq q]
      dsimp only
      rw [asAtt_eq q2]
      refine ⟨?_, rfl⟩
      have bb : Binds X.K fd ps [] := by rw [C.K]; exact hb
      have FF := F h4
      rw [← h5, ← C.K] at FF
      have ht := meth_eval (env := X.env) (mn := mn) h1 h6 h7 h8
      cases as with
      | nil =>
        cases es with
        | nil => exact x_mth0 C.K hl hf (C.lk.cls c) ((ia Wx X s C).1 _ h9) M FF (Mn.Room.less C.room (Nat.le_succ n)) bb C.tk rfl ht
        | cons _ _ => cases h10
        | star _ _ => cases h10
      | cons e r =>
        rw [List.all_cons, Bool.and_eq_true] at h6
        exact x_mth C.K hl hf (C.lk.cls c) ((ia Wx X s C).1 _ h9) M FF (Mn.Room.less C.room (Nat.le_succ n)) bb C.tk (ok.pa C.K) (star_cons h6.1) (star_any h6.2) ht
  · cases h'
theorem snd_prop {a : E} {c f : Nat} (ia : SndE T k gl cl n a) : SndE T k gl cl n (.prop a c f) := fun Wx X s C => both fun b ex h => by
  have h' : (match asAtt ex with | some (x, mn, _) => decide ((c, mn, f) ∈ k.pr) && decide (f < k.nf) && decide (k.ini f = none) && decide (k.np f = 1) && noSuper x && chk k a s false x | none => false) = true := h
  cases q : asAtt ex with
  | none => rw [q] at h'; cases h'
  | some z =>
    obtain ⟨x, mn, p⟩ := z
    rw [q] at h'
    simp only [Bool.and_eq_true, decide_eq_true_eq] at h'
    obtain ⟨⟨⟨⟨⟨h1, h2⟩, h3⟩, h4⟩, h5⟩, h6⟩ := h'
    obtain ⟨pa, hp⟩ := C.lk.pr c mn f h1
    obtain ⟨fd, ps, hb, F, _⟩ := C.fk f h2
    have bb : Binds X.K fd ps [] := by rw [C.K]; exact hb
    have FF := F h3
    rw [h4, ← C.K] at FF
    rw [asAtt_eq q]
    exact ⟨x_prop C.K (C.lk.cls c) ((ia Wx X s C).1 _ h6) hp FF (Mn.Room.less C.room (Nat.le_refl _)) bb (nosup h5), rfl⟩
theorem snd_lenI {a : E} {c f : Nat} (ia : SndE T k gl cl n a) : SndE T k gl cl n (.lenI a c f) := fun Wx X s C => both fun b ex h => by
  have h' : (match asCal ex with
    | some (x, [y], [], _) => (match asName x with
      | some (z, _) => z == ("len" : Str) && bnOk k s "len" && decide ((c, ("__len__" : Str), f) ∈ k.mt) && decide (f < k.nf) && decide (k.ini f = none) && decide (k.np f = 1) && plain y && chk k a s false y
      | none => false)
    | _ => false) = true := h
  split at h'
  · rename_i x y p q
    cases q2 : asName x with
    | none => rw [q2] at h'; cases h'
    | some z =>
      obtain ⟨z, p2⟩ := z
      rw [q2] at h'
      simp only [Bool.and_eq_true, decide_eq_true_eq, beq_iff_eq] at h'
      obtain ⟨⟨⟨⟨⟨⟨⟨rfl, h1⟩, h2⟩, h3⟩, h4⟩, h5⟩, h6⟩, h7⟩ := h'
      obtain ⟨b1, b2, b3⟩ := C.bn_ h1
      obtain ⟨M, _⟩ := C.lk.mt c _ f h2
      obtain ⟨fd, ps, hb, F, _⟩ := C.fk f h3
      have bb : Binds X.K fd ps [] := by rw [C.K]; exact hb
      have FF := F h4
      rw [h5, ← C.K] at FF
      rw [asCal_eq q]
      dsimp only
      rw [asName_eq q2]
      exact ⟨x_lenI C.K b1 b2 boot_len' ((ia Wx X s C).1 _ h7) M FF C.room bb (star_cons h6), rfl⟩
  · cases h'
theorem snd_mk {f : Nat} {es : Es} (ih : SndEs T k gl cl n es) : SndE T k gl cl n (.mk f es) := fun Wx X s C => both fun b ex h => by
  have h' : (match asCal ex with
    | some (x, as, [], _) => (match asName x with
      | some (y, _) => glOk s y && (match k.cn.lookup y with | some c => decide (k.ini f = some c) | none => false) && decide (f < k.nf) && decide (es.len = k.np f) && as.all plain && chks k es s as
      | none => false)
    | _ => false) = true := h
  split at h'
  · rename_i x as p q
    cases q2 : asName x with
    | none => rw [q2] at h'; cases h'
    | some z =>
      obtain ⟨y, p2⟩ := z
      rw [q2] at h'
      simp only [Bool.and_eq_true, decide_eq_true_eq] at h'
      obtain ⟨⟨⟨⟨⟨h1, h2⟩, h3⟩, h5⟩, h6⟩, h7⟩ := h'
      cases q3 : k.cn.lookup y with
      | none => rw [q3] at h2; cases h2
      | some c =>
        rw [q3] at h2
        have h2 := of_decide_eq_true h2
        obtain ⟨g1, g2⟩ := C.gl_ h1
        have f1 := C.lk.cn y c q3
        obtain ⟨fd, ps, hb, _, F⟩ := C.fk f h3
        obtain ⟨ok, el⟩ := ih Wx X s C as h7
        have hl : Len (evEs cl gl es) (k.np f) := by rw [← h5, ← el]; exact ok.len h6
        rw [asCal_eq q]
        dsimp only
        rw [asName_eq q2]
        refine ⟨?_, rfl⟩
        have bb : Binds X.K fd ps [] := by rw [C.K]; exact hb
        have FF := F c h2
        rw [← C.K] at FF
        cases as with
        | nil =>
          cases es with
          | nil => exact x_mk0 C.K hl (C.lk.mkc f c h2) FF C.room g1 f1 bb C.tk rfl g2
          | cons _ _ => cases h7
          | star _ _ => cases h7
        | cons e r =>
          rw [List.all_cons, Bool.and_eq_true] at h6
          exact x_mk C.K hl (C.lk.mkc f c h2) FF C.room g1 f1 bb C.tk (ok.pa C.K) g2 (star_cons h6.1) (star_any h6.2)
  · cases h'
end
end Mn
/-! Mn36: list comprehensions over two sources. -/
namespace Mn
open PySem PySem.Spec PyProof.Rows L2
section
variable {T : Tb} {Rs : Hp} {Wx : WX} {m m0 : Wd} {σ : L2.St} {G : List O} {e : List S} {H : Hp} {X : Cx}
theorem wipe_wipe {σ : L2.St} {us vs : List Nat} (h : ∀ i ∈ us, i ∈ vs) : L2.wipe (L2.wipe σ us) vs = L2.wipe σ vs := by
  refine List.ext_getElem? fun i => ?_
  by_cases hi : i ∈ vs
  · by_cases hlt : i < σ.length
    · rw [wipe_at hi hlt, wipe_at hi (by rw [wipe_length]; exact hlt)]
    · rw [List.getElem?_eq_none (by rw [wipe_length, wipe_length]; omega), List.getElem?_eq_none (by rw [wipe_length]; omega)]
  · rw [wipe_out hi, wipe_out hi, wipe_out fun z => hi (h i z)]
def evLc2G (us : List Nat) (t : Tg) (re : Ev) : D → List S → List O → R (List D) := fun y e G => R.quiet (match setTg t y e with
              | some e => (re e G).toD.bind fun z e G => .ok [z] (wipeS e us) G
              | none => .no)
def evLc2F (vs us : List Nat) (t : Tg) (ri1 : List S → List O → R Sr) (t1 : Tg) (re : Ev) : D → List D → List S → List O → R (List D) := fun x acc e G => R.quiet (match setTg t x e with
        | some e => (ri1 e G).bind fun sr1 e4 G4 => (match rdS sr1 e4 G4 with
          | some ys => (compD (rdS sr1) (evLc2G us t1 re) ys.length 0 acc (wipeS e4 us) G4).bind fun acc e G => .ok acc (wipeS e vs) G
          | none => .no)
        | none => .no)
def evLc2 (vs us : List Nat) (ri : List S → List O → R Sr) (t : Tg) (ri1 : List S → List O → R Sr) (t1 : Tg) (re : Ev) : Ev := fun e G => (ri e G).bind fun sr e1 G1 => if noOwn e1 vs then (match rdS sr e1 G1 with
    | some xs => (compA (rdS sr) (evLc2F vs us t ri1 t1 re) xs.length 0 [] (wipeS e1 vs) G1).bind fun acc e2 G2 => .ok (.f (.lst acc)) (backS e1 e2 vs) G2
    | none => .no) else .no
/-- the comprehension's list grows at p, beside -/
structure Gr (T : Tb) (Rs : Hp) (p : Addr) (σ : L2.St) (m : Wd) (G : List O) (e : List S) (acc : List D) (xs : List V) (H : Hp) : Prop where
  g : RlG T (upd Rs p (.lst xs)) m G H
  s : RlS T (upd Rs p (.lst xs)) m e σ H
  d : DenL T m acc xs
theorem Gr.snoc {p : Addr} {m' : Wd} {G' : List O} {e' : List S} {acc : List D} {xs : List V} {y : D} {v : V} {σ' : L2.St} {H' : Hp} (g : RlG T (upd Rs p (.lst xs)) m' G' H') (s : RlS T (upd Rs p (.lst xs)) m' e' σ' H') (d : DenL T m' acc xs) (dy : Den T m' y v) :
    H' p = some (.lst xs) ∧ Gr T Rs p σ' m' G' e' (acc ++ [y]) (xs ++ [v]) (upd H' p (.lst (xs ++ [v]))) := by
  have hD := g.rs p (.lst xs) upd_same
  have hO : ∀ (i : Nat) (q : O), e'[i]? = some (.own q) → σ'[i]? ≠ some (some (.ref p)) := fun j o k z => by
    obtain ⟨p', a1, _, a3, _⟩ := s.o j o k
    rw [z] at a1
    cases a1
    rw [upd_same] at a3
    cases a3
  refine ⟨hD.1, ?_, ?_, d.append (DenL.one dy)⟩
  · have := g.put (u := .lst (xs ++ [v])) hD.2.1 hD.2.2.1 (fun xs z => nomatch z)
    rw [upd_upd] at this
    exact this
  · have := s.put (u := .lst (xs ++ [v])) hO
    rw [upd_upd] at this
    exact this
theorem quiet_ok {α : Type} {r : R α} {a : α} {e : List S} {G : List O} (h : R.quiet r = .ok a e G) : r = .ok a e G := by
  cases r with
  | ok a e G => exact h
  | ex x e G => cases h
  | no => cases h
theorem bind_assoc {α β γ : Type} (r : R α) (f : α → List S → List O → R β) (k : β → List S → List O → R γ) : (r.bind f).bind k = r.bind fun a e G => (f a e G).bind k := by cases r <;> rfl
theorem tLc2_of {ri ri1 : List S → List O → R Sr} {t t1 : Tg} {re : Ev} {vs us : List Nat} (hw : ∀ i ∈ t.slots, i ∈ vs) (hw1 : ∀ i ∈ t1.slots, i ∈ us) (hu : ∀ i ∈ us, i ∈ vs) {σ : L2.St} {H : Hp} {Q : VK} (h : tE T Wx (evLc2 vs us ri t ri1 t1 re) σ H Q) :
    tLc2 (tJ T Wx ri) (tG T t) (tBo T W0 fun e G => .ok true e G) (tI T W0 ri1) (tG T t1) (tBo T W0 fun e G => .ok true e G) (tD T W0 fun e G => (re e G).toD) vs us σ H Q := by
  obtain ⟨Rs, m, G, e, g, s, h⟩ := h
  refine ⟨Rs, m, G, e, g, s, OkR.thn h fun sr m1 e1 G1 H1 l1 g1 s1 h1 => fun J wk L hL => ?_⟩
  cases hn : noOwn e1 vs with
  | false => rw [hn] at h1; exact h1.elim
  | true =>
    rw [hn, if_pos rfl] at h1
    cases q : rdS sr e1 G1 with
    | none => rw [q] at h1; exact h1.elim
    | some xs =>
      rw [q] at h1
      dsimp only at h1
      have hbs : ∀ j ∈ srB sr, (wipe σ vs)[j]? = σ[j]? := fun j hj => by
        obtain ⟨o, ho⟩ := srB_own q hj
        exact wipe_out fun z => noOwn_at hn z o ho
      have hR := g1.freeR hL
      have an : ∀ m', m1.le m' → m'.an = none ∨ 0 ∉ vs := fun m' l => by
        cases qa : m1.an with
        | none => exact .inl (by rw [l.2, qa])
        | some p =>
          obtain ⟨_, c, fs, b⟩ := s1.an p qa
          exact .inr fun z => noOwn_at hn z _ b
      have an1 : ∀ m', m1.le m' → m'.an = none ∨ 0 ∉ us := fun m' l => (an m' l).imp id fun z y => z (hu 0 y)
      let Inv : Nat → Nat → Hp → Prop := fun i n H' => ∃ m' G' e' acc ys, m1.le m' ∧ Gr T Rs L (wipe σ vs) m' G' e' acc ys H' ∧
        OkR T Rs Wx m' σ ((compA (rdS sr) (evLc2F vs us t ri1 t1 re) n i acc e' G').bind fun acc e2 G2 => .ok (.f (.lst acc)) (backS e1 e2 vs) G2) fun w m' e' G' H' => ∀ v, DenW T Rs m' e' σ H' w v → Q v H'
      refine ⟨Inv, ⟨xs.length, m1, G1, wipeS e1 vs, [], [], Wd.le.refl _, ⟨g1.put (g1.freeF hL) (g1.freeG hL) (fun xs z => nomatch z), (s1.put (s1.freeO hL)).wipe (an m1 (Wd.le.refl _)), rfl⟩, h1⟩, ?_⟩
      rintro i n H2 ⟨m2, G2, e2, acc, xs', l2, k2, h2⟩
      have hL2 := k2.g.rs L (.lst xs') upd_same
      cases n with
      | zero =>
        unfold compA at h2
        cases q2 : rdS sr e2 G2 with
        | none => rw [q2] at h2; exact h2.elim
        | some ys =>
          rw [q2] at h2
          dsimp only at h2
          by_cases hl : ys.length = i
          · rw [if_pos hl] at h2
            refine .inl ⟨(wk _ m2 G2 H2 _ e2 i ys l2.1 hbs k2.g k2.s q2).1 hl, ?_⟩
            have ls : ∀ p o, Rs p = some o → upd Rs L (.lst xs') p = some o := fun p o z => by
              rw [upd_ne (fun y => by rw [y, hR] at z; cases z)]
              exact z
            refine h2 m2 H2 (Wd.le.refl _) (k2.g.less ls) (s1.backS (k2.s.less ls) l2 hn) _ ⟨L, rfl, hL2.2.1, hR, hL2.2.2.1, fun j o k z => ?_, xs', .inl hL2.1, k2.d⟩
            have nj : j ∉ vs := fun y => by
              rw [backS_in (by rw [← k2.s.len, wipe_length, s1.len]) y] at k
              exact noOwn_at hn y o k
            rw [backS_out nj] at k
            obtain ⟨p', a1, _, a3, _⟩ := k2.s.o j o k
            rw [wipe_out nj, z] at a1
            cases a1
            rw [upd_same] at a3
            cases a3
          · rw [if_neg hl] at h2
            exact h2.elim
      | succ n =>
        unfold compA at h2
        cases q2 : rdS sr e2 G2 with
        | none => rw [q2] at h2; exact h2.elim
        | some ys =>
          rw [q2] at h2
          dsimp only at h2
          cases q3 : ys[i]? with
          | none => rw [q3] at h2; exact h2.elim
          | some x =>
            rw [q3] at h2
            dsimp only at h2
            rw [bind_assoc] at h2
            obtain ⟨acc5, e5, G5, hb, h3⟩ := quiet_bind h2
            obtain ⟨go, yl⟩ := (wk _ m2 G2 H2 _ e2 i ys l2.1 hbs k2.g k2.s q2).2 x q3
            refine .inr ⟨go, fun H' => Inv (i + 1) n H', fun H' hN => ⟨n, Nat.lt_succ_self n, hN⟩, fun v H3 hy => ?_⟩
            obtain ⟨m3, l3, g3, s3, dn⟩ := yl v H3 hy
            cases q4 : setTg t x e2 with
            | none => rw [q4] at hb; cases hb
            | some e3 =>
              rw [q4] at hb
              obtain ⟨sr1, e4, G4, hi1, hb⟩ := bind_ok hb
              cases q5 : rdS sr1 e4 G4 with
              | none => rw [q5] at hb; cases hb
              | some zs =>
                rw [q5] at hb
                obtain ⟨acc6, e6, G6, hc, hb⟩ := bind_ok hb
                cases hb
                refine ⟨_, m3, G2, e2, x, e3, g3, s3, dn, q4, fun σ4 s4 sm => ?_⟩
                have hws : wipe σ4 vs = wipe σ vs := wipe_same sm hw
                refine ⟨hws, _, m3, G2, e3, g3, s4, fun m6 H6 l6 g6 s6 => ?_⟩
                dsimp only
                rw [if_pos rfl]
                refine ⟨_, m6, G2, e3, g6, s6, ?_⟩
                rw [hi1]
                intro m7 H7 l7 g7 s7 J1 wk1
                have le7 : m2.le m7 := (l3.trans l6).trans l7
                let In1 : Nat → Nat → Hp → Prop := fun j k H' => ∃ m' G' e' acc' ys', m7.le m' ∧ Gr T Rs L (wipe σ4 us) m' G' e' acc' ys' H' ∧ compD (rdS sr1) (evLc2G us t1 re) k j acc' e' G' = .ok acc5 e6 G5
                refine ⟨In1, ⟨zs.length, m7, G4, wipeS e4 us, acc, xs', Wd.le.refl _, ⟨g7, s7.wipe (an1 m7 (l2.trans le7)), DenL.mono le7 acc xs' k2.d⟩, hc⟩, ?_⟩
                rintro j k H8 ⟨m8, G8, e8, acc8, xs8, l8, k8, h8⟩
                cases k with
                | zero =>
                  unfold compD at h8
                  cases q8 : rdS sr1 e8 G8 with
                  | none => rw [q8] at h8; cases h8
                  | some ys8 =>
                    rw [q8] at h8
                    dsimp only at h8
                    by_cases hl : ys8.length = j
                    · rw [if_pos hl] at h8
                      cases h8
                      refine .inl ⟨(wk1 _ m8 _ H8 _ _ j ys8 l8.1 k8.g k8.s q8).1 hl, ?_⟩
                      have s9 := k8.s.wipe (an m8 ((l2.trans le7).trans l8))
                      rw [wipe_wipe hu, hws] at s9
                      exact ⟨m8, _, _, _, _, (l2.trans le7).trans l8, ⟨k8.g, s9, k8.d⟩, OkR.le h3 (le7.trans l8)⟩
                    · rw [if_neg hl] at h8
                      cases h8
                | succ k =>
                  unfold compD at h8
                  cases q8 : rdS sr1 e8 G8 with
                  | none => rw [q8] at h8; cases h8
                  | some ys8 =>
                    rw [q8] at h8
                    dsimp only at h8
                    cases q9 : ys8[j]? with
                    | none => rw [q9] at h8; cases h8
                    | some y =>
                      rw [q9] at h8
                      dsimp only at h8
                      by_cases hlen : acc8.length < sLn
                      · rw [if_pos hlen] at h8
                        obtain ⟨o, ea, Ga, hg, h9⟩ := bind_ok h8
                        have hg := quiet_ok hg
                        obtain ⟨go1, yl1⟩ := (wk1 _ m8 _ H8 _ _ j ys8 l8.1 k8.g k8.s q8).2 y q9
                        refine .inr ⟨go1, fun H' => In1 (j + 1) k H', fun H' hN => ⟨k, Nat.lt_succ_self k, hN⟩, fun v9 H9 hy9 => ?_⟩
                        obtain ⟨m9, l9, g9, s9, dn9⟩ := yl1 v9 H9 hy9
                        cases qa : setTg t1 y e8 with
                        | none => rw [qa] at hg; cases hg
                        | some eb =>
                          rw [qa] at hg
                          obtain ⟨z, ec, Gc, hz, hg⟩ := bind_ok hg
                          cases hg
                          refine ⟨_, m9, G8, e8, y, eb, g9, s9, dn9, qa, fun σb sb sm1 => ?_⟩
                          have hwu : wipe σb us = wipe σ4 us := wipe_same sm1 hw1
                          refine ⟨hwu, _, m9, G8, eb, g9, sb, fun mc Hc lc gc sc => ?_⟩
                          dsimp only
                          rw [if_pos rfl]
                          refine ⟨_, mc, G8, eb, gc, sc, ?_⟩
                          dsimp only
                          rw [hz]
                          intro md Hd ld gd sd yv dy
                          have lem := ((l8.trans l9).trans lc).trans ld
                          have sw := sd.wipe (an1 md ((l2.trans le7).trans lem))
                          rw [hwu] at sw
                          obtain ⟨u1, u2⟩ := Gr.snoc gd sw (DenL.mono ((l9.trans lc).trans ld) acc8 xs8 k8.d) dy
                          exact ⟨xs8, u1, by rw [← k8.d.length]; exact hlen, md, _, _, _, _, lem, u2, h9⟩
                      · rw [if_neg hlen] at h8
                        cases h8
theorem x_lc2 {elt tg iter tg1 iter1 : Expr} {scope : Scope} {own : List (Str × Nat)} {pos : Pos} {ri ri1 : List S → List O → R Sr} {t t1 : Tg} {re : Ev} (hc : X.calm = true) (hN : X.N.Nodup) (hi : PI X tg iter (tJ T Wx ri)) (ok : BlkOk X.N X.env.scope scope own)
    (hg : ∀ (s : Shared) (H : Hp) (C : Addr) (cl : List (Str × Addr)) (fp : List Addr), PG (X.blk s H scope (compEnvC scope cl C X.env) fp) tg (tG T t))
    (ht : ∀ (s : Shared) (H : Hp) (C : Addr) (cl : List (Str × Addr)) (fp : List Addr), PTs (X.blk s H scope (compEnvC scope cl C X.env) fp) [] (tBo T W0 fun e G => .ok true e G))
    (hi1 : ∀ (s : Shared) (H : Hp) (C : Addr) (cl : List (Str × Addr)) (fp : List Addr), PI (X.blk s H scope (compEnvC scope cl C X.env) fp) tg1 iter1 (tI T W0 ri1))
    (hg1 : ∀ (s : Shared) (H : Hp) (C : Addr) (cl : List (Str × Addr)) (fp : List Addr), PG (X.blk s H scope (compEnvC scope cl C X.env) fp) tg1 (tG T t1))
    (he : ∀ (s : Shared) (H : Hp) (C : Addr) (cl : List (Str × Addr)) (fp : List Addr), PE (X.blk s H scope (compEnvC scope cl C X.env) fp) elt (tE T W0 re)) (hw : ∀ i ∈ t.slots, i ∈ own.map (·.2)) (hw1 : ∀ i ∈ t1.slots, i ∈ own.map (·.2)) (hs : ∀ x, foldedSetIterable iter X.env x = pure x) (hs1 : ∀ env x, foldedSetIterable iter1 env x = pure x) :
    PE X (.ListComp elt [⟨tg, iter, [], 0⟩, ⟨tg1, iter1, [], 0⟩] scope pos) (tE T Wx (evLc2 (own.map (·.2)) t1.slots ri t ri1 t1 re)) :=
  PE.imp (pe_lc2 hc hN hi ok hw1 hg ht hi1 hg1 ht (fun s H C cl fp => PE.imp (he s H C cl fp) fun _ _ _ => tE_of_tD) hs hs1) fun σ H Q => tLc2_of hw (fun _ z => z) hw1
end
end Mn
/-! Mn37: dict comprehensions, whatever their keys. -/
namespace Mn
open PySem PySem.Spec PyProof.Rows L2
section
variable {X : Cx}
abbrev AtBlk (X : Cx) (scope : Scope) (P : Cx → Prop) : Prop := ∀ (s : Shared) (H : Hp) (C : Addr) (cl : List (Str × Addr)) (fp : List Addr), P (X.blk s H scope (compEnvC scope cl C X.env) fp)
/-- {k: v for target in iter if ..}: d the new dict -/
def tDcP (t : Bool) (wi : TI) (g : TG) (tt : TT) (tk tv : TE) (vs : List Nat) : TE := fun σ H Q => wi σ H fun J H1 => ∀ d, H1 d = none → ∃ W : Nat → Nat → Hp → Prop, (∃ m, W 0 m (upd H1 d (emD t))) ∧ ∀ i m H, W i m H →
  (J.stop i H ∧ Q (.ref d) H) ∨ (J.go i H ∧ ∃ Nx : Hp → Prop, (∀ H', Nx H' → ∃ m', m' < m ∧ W (i + 1) m' H') ∧ ∀ x H', J.yld i H x H' → g x (wipe σ vs) H' fun σ2 H2 => wipe σ2 vs = wipe σ vs ∧
    tt σ2 H2 fun b H3 => if b = true then tk σ2 H3 fun y H4 => tv σ2 H4 fun z H5 => ∃ H6, DPut H5 d y z H6 ∧ Nx H6 else Nx H3)
theorem dcP_core {t : Bool} {pins : List (Addr × Obj)} {s0 : Shared} {σ : L2.St} {H : Hp} {Q : VK} {ek ev tg iter : Expr} {ifs : List Expr} {scope : Scope} {own : List (Str × Nat)} {pos pos' : Pos} {wi : TI} {g : TG} {tt : TT} {tk tv : TE} {use : Option (Value → Sem Unit)} {Qf : Value → Shared → Prop}
    (hu : X.A.units + 64 < cLine) (hc : X.calm = true) (hN : X.N.Nodup) (I : Inv X pins σ H s0) (hi : PI X tg iter wi) (ok : BlkOk X.N X.env.scope scope own)
    (hg : AtBlk X scope fun Y => PG Y tg g) (ht : AtBlk X scope fun Y => PTs Y ifs tt) (hk : AtBlk X scope fun Y => PE Y ek tk) (hv : AtBlk X scope fun Y => PE Y ev tv) (hs : ∀ x, foldedSetIterable iter X.env x = pure x)
    (h : tDcP t wi g tt tk tv (own.map (·.2)) σ H Q)
    (fin : ∀ d C s' m H', Inv X pins σ H' s' → Q (.ref d) H' → s'.heap.Ns C m → FpOk X pins H' C → compPost (model X.prog X.w) X.A X.xe use Qf (.ref d) C (.ok .next) s') :
    wpAny (model X.prog X.w) X.A (comprehension (.DictComp ek ev [⟨tg, iter, ifs, 0⟩] scope pos) scope X.env pos' newDict false (eval iter X.env) use) Qf X.xe s0 := by
  have cells : ∀ nk ∈ scope.names, nk.2 = .free → ∃ c, X.env.cells.lookup nk.1 = some c := fun nk hm e => (ok.free nk hm e).elim (fun z => I.ok.has _ (.inl z)) (fun z => I.ok.has _ (.inr z))
  refine wpAny_comprehension_free (use := use) rfl hs (closure_ok cells) ok.kind (fun nk hm e => by rw [ok.uniq nk hm, e]) (thn (hi.run pins s0 σ H _ I h) fun _ _ ha => thn ha fun _ sB hb => ?_)
  obtain ⟨it, fp, tn, J, HB, rfl, IB, T, stB, fB, q⟩ := hb
  refine wpAny_newObj_type (newEnv_comp ?_)
  have dn : HB sB.heap.objs.size = none := IB.hok.fresh (Nat.le_refl _)
  obtain ⟨W, ⟨n0, w0⟩, turn⟩ := q _ dn
  have lt_fp : ∀ b ∈ fp, b < sB.heap.objs.size := fun b hb => (T.obj _ _ stB b hb).elim fun o z => Heap.lt_size z.1
  have IC := em_laid t IB
  generalize hd : sB.heap.objs.size = d at dn w0 turn lt_fp IC ⊢
  have stC : tn 0 (sB.heap.push { cls := .type "dict", data := .dict #[] }) := T.keep _ _ _ stB fun _ _ _ z => Heap.get?_push_of_some _ z
  have szC : (sB.heap.push ({ cls := .type "dict", data := .dict #[] } : Obj)).objs.size = d + 1 := by rw [Heap.size_push, hd]
  have fC : ∀ b ∈ fp, FpOk X pins (upd HB d (emD t)) b ∧ b < (sB.heap.push ({ cls := .type "dict", data := .dict #[] } : Obj)).objs.size := fun b hb => by
    have hl := lt_fp b hb
    have := fB b hb
    exact ⟨⟨by rw [upd_ne (Nat.ne_of_lt hl)]; exact this.1, this.2⟩, by rw [szC]; exact Nat.lt_succ_of_lt hl⟩
  generalize hsC : ({ sB with heap := sB.heap.push { cls := .type "dict", data := .dict #[] } } : Shared) = sC at IC ⊢
  have heC : sC.heap = sB.heap.push { cls := .type "dict", data := .dict #[] } := by rw [← hsC]
  rw [← heC] at stC fC
  generalize hHC : upd HB d (emD t) = HC at IC fC w0
  have ID := block_start IC ok hN fC
  have none_fp : ∀ b ∈ fp, HC b = none := fun b hb => (fC b hb).1.1
  show codeAny _ _ (.compStart (.DictComp ek ev [⟨tg, iter, ifs, 0⟩] scope pos) 0 (.ref it) (.ref d) (compEnvC scope (cellsFrom (sC.heap.objs.size + 1) scope.names (cloFrom X.env.cells scope.names [])) sC.heap.objs.size X.env)) (compPost (model X.prog X.w) X.A X.xe use Qf (.ref d) sC.heap.objs.size) { sC with heap := pushCells (sC.heap.push { cls := .type "dict", data := .dict #[] }) scope.names }
  have pg := hg sC HC sC.heap.objs.size (cellsFrom (sC.heap.objs.size + 1) scope.names (cloFrom X.env.cells scope.names [])) fp
  have pt := ht sC HC sC.heap.objs.size (cellsFrom (sC.heap.objs.size + 1) scope.names (cloFrom X.env.cells scope.names [])) fp
  have pk := hk sC HC sC.heap.objs.size (cellsFrom (sC.heap.objs.size + 1) scope.names (cloFrom X.env.cells scope.names [])) fp
  have pv := hv sC HC sC.heap.objs.size (cellsFrom (sC.heap.objs.size + 1) scope.names (cloFrom X.env.cells scope.names [])) fp
  generalize hcv : compEnvC scope (cellsFrom (sC.heap.objs.size + 1) scope.names (cloFrom X.env.cells scope.names [])) sC.heap.objs.size X.env = cv at ID pg pt pk pv ⊢
  have cvl : cv.locals = sC.heap.objs.size := by rw [← hcv]; rfl
  have stD : tn 0 (pushCells (sC.heap.push { cls := .type "dict", data := .dict #[] }) scope.names) := T.keep _ _ _ stC fun b _ o z => pushCells_keeps _ _ _ _ (Heap.get?_push_of_some _ z)
  have ofp : ∀ {σ' : L2.St} {H' : Hp} {s' : Shared}, Inv (X.blk sC HC scope cv fp) [] σ' H' s' → (∀ b ∈ fp, H' b = none) → ∀ b ∈ fp, FpOk (X.blk sC HC scope cv fp) [] H' b := fun J nn b hb => by
    obtain ⟨z1, z2⟩ := J.ok.exf b hb
    exact ⟨nn b hb, z1, J.ok.exfs b hb, .inl hb, fun x c e => z2 x c e, fun p hp => (by simp at hp)⟩
  -- what stands ahead of each turn
  let St : Nat → Shared → Prop := fun n s' => ∃ i H', Inv (X.blk sC HC scope cv fp) [] (wipe σ (own.map (·.2))) H' s' ∧ tn i s'.heap ∧ (∀ b ∈ fp, H' b = none) ∧ W i n H'
  have loop : codeAny (model X.prog X.w) X.A (.compLoop (.DictComp ek ev [⟨tg, iter, ifs, 0⟩] scope pos) 0 (.ref it) (.ref d) cv) (compPost (model X.prog X.w) X.A X.xe use Qf (.ref d) sC.heap.objs.size) { sC with heap := pushCells (sC.heap.push { cls := .type "dict", data := .dict #[] }) scope.names } := by
    refine compLoop_anyD St (fun n sE hE => ?_) n0 ⟨0, HC, ID, stD, none_fp, w0⟩
    obtain ⟨i, HE, IE, stE, nE, wE⟩ := hE
    rcases turn i n HE wE with ⟨stop, qq⟩ | ⟨go, Nx, hNx, step⟩
    · refine thnF (T.done (X.blk sC HC scope cv fp) rfl rfl rfl hc i [] sE _ HE (fun _ _ => False) IE (ofp IE nE) stE stop) fun r sF ⟨hr, IF⟩ => ?_
      subst hr
      have IG : Inv X pins σ HE sF := IC.call' (ch := fp) IF.os IF.base IF.hok IF.bare fun b hb => by
        have z := (fC b hb).1.2
        exact ⟨z.2.2.1, z.1, z.2.2.2.1, z.2.2.2.2⟩
      have nl : HE sC.heap.objs.size = none := by rw [← cvl]; exact IF.free
      obtain ⟨ml, hm, _⟩ := IF.loc
      have hm : sF.heap.Ns cv.locals ml := hm
      rw [cvl] at hm
      exact fin d _ sF ml HE IG qq hm (IC.fpOk (Nat.le_refl _) nl)
    · refine thnF (T.item (X.blk sC HC scope cv fp) rfl rfl rfl hc i [] sE _ HE (fun _ _ => False) IE (ofp IE nE) stE go) fun r sF ⟨u, hr, hF⟩ => ?_
      subst hr
      refine thnF hF fun _ sG ⟨x, HG, IG, rG, yG, stG, nG⟩ => ?_
      have IGp := IG.pinned (ofp IG nG) (T.obj _ _ stG)
      refine thnF (pg.run _ sG _ HG x u _ IGp rG (step x HG yG)) fun _ sH ⟨σH, HH, IH, hw, qH⟩ => ?_
      refine thnF (pt.run _ sH σH HH _ IH qH) fun b sI ⟨HI, II, qI⟩ => ?_
      have again : ∀ {s' : Shared} {H' : Hp}, Inv (X.blk sC HC scope cv fp) ([] ++ pinsAt fp sG.heap) σH H' s' → Nx H' → ∃ m, m < n ∧ St m s' := fun {s' H'} IZ nx => by
        obtain ⟨m', lt, wZ⟩ := hNx H' nx
        have pin : ∀ b ∈ fp, ∀ o, sG.heap.get? b = some o → s'.heap.get? b = some o ∧ H' b = none := fun b hb o e => by
          have z := IZ.pin (b, o) (List.mem_append_right _ (List.mem_append_right _ (mem_pinsAt hb e)))
          exact ⟨z.1, z.2.1⟩
        refine ⟨m', lt, i + 1, H', (IZ.unpinned (pins := [])).weak (by rw [← hw, wipe_length]) (fun j v e => ?_), T.keep _ _ _ stG fun b hb o e => (pin b hb o e).1, fun b hb => ?_, wZ⟩
        · rw [← hw] at e
          exact (wipe_some e).1
        · obtain ⟨o, e, _⟩ := T.obj _ _ stG b hb
          exact (pin b hb o e).2
      cases b with
      | false =>
        simp only [Bool.false_eq_true, if_false] at qI ⊢
        exact again II qI
      | true =>
        simp only [if_true] at qI ⊢
        refine thnF (pk.run _ sI σH HI _ II qI) fun z sJ ⟨yk, HJ, IJ, rJ, qJ⟩ => ?_
        refine thnF (pv.run _ sJ σH HJ _ IJ qJ) fun z2 sK ⟨yv, HK, IK, rK, HL, dp, nx⟩ => ?_
        exact d_put (X := X.blk sC HC scope cv fp) (by show X.A.units + 1 < _; omega) IK dp rJ rK fun sL IL => again IL nx
  exact codeAny_compStart_dict loop (T.self X.A 0 _ _ _ stD loop)
end
end Mn
/-! Mn38: dict comprehensions tell their text. -/
namespace Mn
open PySem PySem.Spec PyProof.Rows L2
section
variable {T : Tb} {Rs : Hp} {Wx : WX} {m m0 : Wd} {σ : L2.St} {G : List O} {e : List S} {H : Hp} {X : Cx}
/-- as a value -/
theorem pe_dcP {t : Bool} {ek ev tg iter : Expr} {ifs : List Expr} {scope : Scope} {own : List (Str × Nat)} {pos : Pos} {wi : TI} {g : TG} {tt : TT} {tk tv : TE} (hu : X.A.units + 64 < cLine) (hc : X.calm = true) (hN : X.N.Nodup) (hi : PI X tg iter wi) (ok : BlkOk X.N X.env.scope scope own)
    (hg : AtBlk X scope fun Y => PG Y tg g) (ht : AtBlk X scope fun Y => PTs Y ifs tt) (hk : AtBlk X scope fun Y => PE Y ek tk) (hv : AtBlk X scope fun Y => PE Y ev tv) (hs : ∀ x, foldedSetIterable iter X.env x = pure x) :
    PE X (.DictComp ek ev [⟨tg, iter, ifs, 0⟩] scope pos) (tDcP t wi g tt tk tv (own.map (·.2))) :=
  ⟨fun pins s σ H Q I h => by
    rw [arm_eval_DictComp]
    exact dcP_core hu hc hN I hi ok hg ht hk hv hs h fun d C s' m H' I' q hn ⟨f0, f1, _, f3, f4, f5⟩ => ⟨m, hn, fun h'' sb => ⟨.ref d, H', I'.turned (t' := s'.toks) (fun b o hb e => (sb.2 b hb).trans e) f0 f1 f3 f4 f5, rfl, q⟩⟩⟩
/-- .. stored under a name -/
theorem ps_dcP {t : Bool} {i : Nat} {y : Str} {py : Pos} {ek ev tg iter : Expr} {ifs : List Expr} {scope : Scope} {own : List (Str × Nat)} {pos spos : Pos} {wi : TI} {g : TG} {tt : TT} {tk tv : TE} (hu : X.A.units + 64 < cLine) (hc : X.calm = true) (hN : X.N.Nodup) (hy : X.N[i]? = some y) (hyl : X.env.scope.names.lookup y = some .local)
    (hsw : swapsWith (.DictComp ek ev [⟨tg, iter, ifs, 0⟩] scope pos) (some (.Name y py)) spos.line X.env = pure true) (hi : PI X tg iter wi) (ok : BlkOk X.N X.env.scope scope own)
    (hg : AtBlk X scope fun Y => PG Y tg g) (ht : AtBlk X scope fun Y => PTs Y ifs tt) (hk : AtBlk X scope fun Y => PE Y ek tk) (hv : AtBlk X scope fun Y => PE Y ev tv) (hs : ∀ x, foldedSetIterable iter X.env x = pure x) :
    PS X (.Assign [.Name y py] (.DictComp ek ev [⟨tg, iter, ifs, 0⟩] scope pos) spos) (tAsg (tDcP t wi g tt tk tv (own.map (·.2))) (gName i)) :=
  ⟨fun pins s σ H D I h => by
    rw [exec_Assign_Name_used _ _ _ _ hsw]
    refine wpAny_bind (wpAny_standAt (wpAny_bind (wpAny_bind ?_)))
    refine thn (dcP_core (Qf := fun _ s' => SP X pins D .next s') (Q := fun x H1 => gName i x σ H1 D.nx) (pos' := firstIterPos [⟨tg, iter, ifs, 0⟩] pos) (use := some (assign (.Name y py) X.env)) hu hc hN I hi ok hg ht hk hv hs h fun d C s' m H' I' q hn ⟨f0, f1, _, f3, f4, f5⟩ => ?_) fun _ s' hq => wpAny_pure (wpAny_pure hq)
    show wpAny _ _ (assign (.Name y py) X.env (.ref d)) _ _ _
    refine wpAny_assign_Name (store_ok2 (v := V.ref d) I' hN hy (.inl hyl) rfl (fun s2 J ⟨a, sb, ha⟩ => ?_) (.inr hyl))
    have ne : C ≠ a := ha.elim (fun z => by rw [z]; exact f1) fun z w => f4 y a z w.symm
    exact ⟨m, hn.sameBut sb ne, fun h3 sb3 => ⟨_, H', J.turned (t' := s2.toks) (fun b o hb e => (sb3.2 b hb).trans e) f0 f1 f3 f4 f5, q⟩⟩⟩
def evDcF (vs : List Nat) (t : Tg) (rt : List S → List O → R Bool) (rk rv : Ev) : D → List S → List O → R (Option (D × D)) := fun x e G => R.quiet (match setTg t x e with
        | some e => (rt e G).bind fun k e G => if k then (rk e G).toD.bind fun y e G => (rv e G).toD.bind fun z e G => .ok (some (y, z)) (wipeS e vs) G else .ok none (wipeS e vs) G
        | none => .no)
def evDc (b : Bool) (vs : List Nat) (ri : List S → List O → R Sr) (t : Tg) (rt : List S → List O → R Bool) (rk rv : Ev) : Ev := fun e G => (ri e G).bind fun sr e1 G1 => if noOwn e1 vs then (match rdS sr e1 G1 with
    | some xs => (compK (rdS sr) (evDcF vs t rt rk rv) xs.length 0 (emO b) (wipeS e1 vs) G1).bind fun o e2 G2 => .ok (.f o) (backS e1 e2 vs) G2
    | none => .no) else .no
/-- the dict grows at p, beside -/
structure GrO (T : Tb) (Rs : Hp) (p : Addr) (σ : L2.St) (m : Wd) (G : List O) (e : List S) (o : O) (u : HO) (H : Hp) : Prop where
  g : RlG T (upd Rs p u) m G H
  s : RlS T (upd Rs p u) m e σ H
  d : DenO T m H false o p
theorem DenO.hold {p : Addr} {o : O} {u : HO} (h : DenO T m H false o p) (e : H p = some u) : ∀ xs, u ≠ .tup xs := fun xs z => h.noTup xs (by rw [e, z])
theorem tDc_of {b : Bool} {ri : List S → List O → R Sr} {t : Tg} {rt : List S → List O → R Bool} {rk rv : Ev} {vs : List Nat} (hw : ∀ i ∈ t.slots, i ∈ vs) {σ : L2.St} {H : Hp} {Q : VK} (h : tE T Wx (evDc b vs ri t rt rk rv) σ H Q) :
    tDcP b (tJ T Wx ri) (tG T t) (tBo T W0 rt) (tD T W0 fun e G => (rk e G).toD) (tD T W0 fun e G => (rv e G).toD) vs σ H Q := by
  obtain ⟨Rs, m, G, e, g, s, h⟩ := h
  refine ⟨Rs, m, G, e, g, s, OkR.thn h fun sr m1 e1 G1 H1 l1 g1 s1 h1 => fun J wk p hp => ?_⟩
  cases hn : noOwn e1 vs with
  | false => rw [hn] at h1; exact h1.elim
  | true =>
    rw [hn, if_pos rfl] at h1
    cases q : rdS sr e1 G1 with
    | none => rw [q] at h1; exact h1.elim
    | some xs =>
      rw [q] at h1
      dsimp only at h1
      have hbs : ∀ j ∈ srB sr, (wipe σ vs)[j]? = σ[j]? := fun j hj => by
        obtain ⟨o, ho⟩ := srB_own q hj
        exact wipe_out fun z => noOwn_at hn z o ho
      have hR := g1.freeR hp
      have an : ∀ m', m1.le m' → m'.an = none ∨ 0 ∉ vs := fun m' l => by
        cases qa : m1.an with
        | none => exact .inl (by rw [l.2, qa])
        | some a =>
          obtain ⟨_, c, fs, z⟩ := s1.an a qa
          exact .inr fun y => noOwn_at hn y _ z
      have le0 : ∀ {u : HO} (r : Addr) (o : HO), Rs r = some o → upd Rs p u r = some o := fun {u} r o z => by
        rw [upd_ne (fun y => by rw [y, hR] at z; cases z)]
        exact z
      let Inv : Nat → Nat → Hp → Prop := fun i n H' => ∃ m' G' e' o u, m1.le m' ∧ GrO T Rs p (wipe σ vs) m' G' e' o u H' ∧
        OkR T Rs Wx m' σ ((compK (rdS sr) (evDcF vs t rt rk rv) n i o e' G').bind fun o e2 G2 => .ok (.f o) (backS e1 e2 vs) G2) fun w m' e' G' H' => ∀ v, DenW T Rs m' e' σ H' w v → Q v H'
      refine ⟨Inv, ⟨xs.length, m1, G1, wipeS e1 vs, emO b, emD b, Wd.le.refl _, ⟨g1.put (g1.freeF hp) (g1.freeG hp) (em_nt b), (s1.put (s1.freeO hp)).wipe (an m1 (Wd.le.refl _)), em_den b upd_same⟩, h1⟩, ?_⟩
      rintro i n H2 ⟨m2, G2, e2, o, u, l2, k2, h2⟩
      have hp2 := k2.g.rs p u upd_same
      cases n with
      | zero =>
        unfold compK at h2
        cases q2 : rdS sr e2 G2 with
        | none => rw [q2] at h2; exact h2.elim
        | some ys =>
          rw [q2] at h2
          dsimp only at h2
          by_cases hl : ys.length = i
          · rw [if_pos hl] at h2
            refine .inl ⟨(wk _ m2 G2 H2 _ e2 i ys l2.1 hbs k2.g k2.s q2).1 hl, ?_⟩
            refine h2 m2 H2 (Wd.le.refl _) (k2.g.less le0) (s1.backS (k2.s.less le0) l2 hn) _ ⟨p, rfl, hp2.2.1, hR, hp2.2.2.1, fun j o k z => ?_, k2.d⟩
            have nj : j ∉ vs := fun y => by
              rw [backS_in (by rw [← k2.s.len, wipe_length, s1.len]) y] at k
              exact noOwn_at hn y o k
            rw [backS_out nj] at k
            obtain ⟨p', a1, _, a3, _⟩ := k2.s.o j o k
            rw [wipe_out nj, z] at a1
            cases a1
            rw [upd_same] at a3
            cases a3
          · rw [if_neg hl] at h2
            exact h2.elim
      | succ n =>
        unfold compK at h2
        cases q2 : rdS sr e2 G2 with
        | none => rw [q2] at h2; exact h2.elim
        | some ys =>
          rw [q2] at h2
          dsimp only at h2
          cases q3 : ys[i]? with
          | none => rw [q3] at h2; exact h2.elim
          | some x =>
            rw [q3] at h2
            dsimp only at h2
            rw [bind_assoc] at h2
            obtain ⟨r, e5, G5, hb, h3⟩ := quiet_bind h2
            obtain ⟨go, yl⟩ := (wk _ m2 G2 H2 _ e2 i ys l2.1 hbs k2.g k2.s q2).2 x q3
            refine .inr ⟨go, fun H' => Inv (i + 1) n H', fun H' hN => ⟨n, Nat.lt_succ_self n, hN⟩, fun v H3 hy => ?_⟩
            obtain ⟨m3, l3, g3, s3, dn⟩ := yl v H3 hy
            cases q4 : setTg t x e2 with
            | none => rw [q4] at hb; cases hb
            | some e3 =>
              rw [q4] at hb
              obtain ⟨k, e6, G6, ht, hb⟩ := bind_ok hb
              refine ⟨_, m3, G2, e2, x, e3, g3, s3, dn, q4, fun σ4 s4 sm => ?_⟩
              have hws : wipe σ4 vs = wipe σ vs := wipe_same sm hw
              refine ⟨hws, _, m3, G2, e3, g3, s4, ?_⟩
              rw [ht]
              intro m6 H6 l6 g6 s6
              have le6 : m2.le m6 := l3.trans l6
              -- the dict as it stands, whatever the heap
              have den : ∀ {m' : Wd} {G' : List O} {H' : Hp}, m2.le m' → RlG T (upd Rs p u) m' G' H' → DenO T m' H' false o p := fun {m' G' H'} l g => (DenO.subm l.1 (fun _ _ z => z) o p k2.d).at (by rw [(g.rs p u upd_same).1, hp2.1])
              cases k with
              | false =>
                dsimp only
                rw [if_neg Bool.false_ne_true]
                rw [if_neg Bool.false_ne_true] at hb
                cases hb
                have s7 := s6.wipe (an m6 (l2.trans le6))
                rw [hws] at s7
                exact ⟨m6, _, _, o, u, l2.trans le6, ⟨g6, s7, den le6 g6⟩, OkR.le h3 le6⟩
              | true =>
                dsimp only
                rw [if_pos rfl]
                rw [if_pos rfl] at hb
                obtain ⟨y, e7, G7, hy2, hb⟩ := bind_ok hb
                obtain ⟨z, e8, G8, hz2, hb⟩ := bind_ok hb
                cases hb
                refine ⟨_, m6, G6, e6, g6, s6, ?_⟩
                dsimp only
                rw [hy2]
                intro m7 H7 l7 g7 s7 yv dy
                refine ⟨_, m7, G7, e7, g7, s7, ?_⟩
                dsimp only
                rw [hz2]
                intro m8 H8 l8 g8 s8 zv dz
                have le8 : m2.le m8 := (le6.trans l7).trans l8
                dsimp only at h3
                cases q5 : wrK o y z with
                | none => rw [q5] at h3; exact h3.elim
                | some o' =>
                  rw [q5] at h3
                  have d8 := den le8 g8
                  obtain ⟨u', dp, dd, _⟩ := wrK_at g8.fz d8 (Den.mono l8 y yv dy) dz q5
                  have hp8 := g8.rs p u upd_same
                  have ut := (dd (upd H8 p u') upd_same).hold upd_same
                  have hO : ∀ (i : Nat) (q : O), (wipeS e8 vs)[i]? = some (.own q) → (wipe σ4 vs)[i]? ≠ some (some (.ref p)) := fun j oo k z => by
                    have nj : j ∉ vs := fun y => by have := wipeS_in y k; cases this
                    rw [wipeS_out nj] at k
                    rw [wipe_out nj] at z
                    obtain ⟨p', a1, _, a3, _⟩ := s8.o j oo k
                    rw [z] at a1
                    cases a1
                    rw [upd_same] at a3
                    cases a3
                  have s9 := (s8.wipe (an m8 (l2.trans le8))).put (u := u') hO
                  rw [hws, upd_upd] at s9
                  have g9 := g8.put (u := u') hp8.2.1 hp8.2.2.1 ut
                  rw [upd_upd] at g9
                  exact ⟨_, dp, m8, _, _, o', u', l2.trans le8, ⟨g9, s9, dd _ upd_same⟩, OkR.le h3 le8⟩
theorem x_dc {b : Bool} {ek ev tg iter : Expr} {ifs : List Expr} {scope : Scope} {own : List (Str × Nat)} {pos : Pos} {ri : List S → List O → R Sr} {t : Tg} {rt : List S → List O → R Bool} {rk rv : Ev} (hu : X.A.units + 64 < cLine) (hc : X.calm = true) (hN : X.N.Nodup) (hi : PI X tg iter (tJ T Wx ri)) (ok : BlkOk X.N X.env.scope scope own)
    (hg : AtBlk X scope fun Y => PG Y tg (tG T t)) (ht : AtBlk X scope fun Y => PTs Y ifs (tBo T W0 rt)) (hk : AtBlk X scope fun Y => PE Y ek (tE T W0 rk)) (hv : AtBlk X scope fun Y => PE Y ev (tE T W0 rv)) (hw : ∀ i ∈ t.slots, i ∈ own.map (·.2)) (hs : ∀ x, foldedSetIterable iter X.env x = pure x) :
    PE X (.DictComp ek ev [⟨tg, iter, ifs, 0⟩] scope pos) (tE T Wx (evDc b (own.map (·.2)) ri t rt rk rv)) :=
  PE.imp (pe_dcP hu hc hN hi ok hg ht (fun s H C cl fp => PE.imp (hk s H C cl fp) fun _ _ _ => tE_of_tD) (fun s H C cl fp => PE.imp (hv s H C cl fp) fun _ _ _ => tE_of_tD) hs) fun σ H Q => tDc_of hw
end
end Mn
/-! Mn39: methods of dicts: get, update. -/
namespace Mn
open PySem PySem.Spec PyProof.Rows L2
section
variable {T : Tb} {Rs : Hp} {Wx : WX} {m : Wd} {σ : L2.St} {G : List O} {e : List S} {H : Hp} {X : Cx}
theorem mmTy_dct {mm : MM} {o : Option O} (h : mmTy mm o = true) (hn : mmDict mm = true) : ∃ o', o = some o' ∧ ((∃ kvs, o' = .dK kvs) ∨ ∃ kvs, o' = .dT kvs) := by
  cases o with
  | none => cases mm <;> cases h
  | some o =>
    cases o with
    | dK kvs => exact ⟨_, rfl, .inl ⟨_, rfl⟩⟩
    | dT kvs => exact ⟨_, rfl, .inr ⟨_, rfl⟩⟩
    | _ => cases mm <;> first | (cases h; done) | (cases hn; done)
theorem tMMd {mm : MM} {ra : Ev} {rs : List S → List O → R (List D)} (hn : mmDict mm = true) {σ : L2.St} {H : Hp} {Q : VK} (h : tE T Wx (evMM mm ra rs) σ H Q) : tBM T.K "dict" (rMM T mm) (tW T Wx fun e G => (ra e G).soft) (tDs T Wx rs) σ H Q := by
  obtain ⟨Rs, m, G, e, g, s, h⟩ := h
  refine ⟨Rs, m, G, e, g, s, OkR.thn h fun w m1 e1 G1 H1 l1 g1 s1 h1 v1 dw => ?_⟩
  cases ht : mmTy mm (rdO e1 G1 w) with
  | false => rw [ht] at h1; exact h1.elim
  | true =>
    rw [ht, if_pos rfl] at h1
    obtain ⟨o, ho, hk⟩ := mmTy_dct ht hn
    obtain ⟨p, rfl, dno⟩ := rdO_at g1 s1 dw.toW ho
    have ty : tyV T.K "dict" (.ref p) H1 := by
      rcases hk with ⟨kvs, rfl⟩ | ⟨kvs, rfl⟩
      · obtain ⟨ys, hH, _⟩ := dno; exact .inr (.inr (.inl ⟨rfl, .inl ⟨ys, hH⟩⟩))
      · obtain ⟨ys, hH, _⟩ := dno; exact .inr (.inr (.inl ⟨rfl, .inr ⟨ys, hH⟩⟩))
    refine ⟨ty, Rs, m1, G1, e1, g1, s1, OkR.thn h1 fun ds m2 e2 G2 H2 l2 g2 s2 h2 vs dl => ?_⟩
    refine ⟨Rs, m2, G2, e2, σ, w, ds, g2, s2, dw.mono l2, dl, ?_⟩
    unfold mmop at h2 ⊢
    cases q : rdO e2 G2 w with
    | none => rw [q] at h2; exact h2.elim
    | some o =>
      rw [q] at h2
      dsimp only at h2 ⊢
      cases q2 : mmO mm o ds e2 G2 with
      | none => rw [q2] at h2; exact h2.elim
      | some z =>
        obtain ⟨r, o'⟩ := z
        rw [q2] at h2
        dsimp only at h2 ⊢
        cases q3 : mmP mm with
        | true => rw [q3] at h2; exact h2
        | false =>
          rw [q3] at h2
          simp only [Bool.false_eq_true, if_false] at h2 ⊢
          cases q4 : upO e2 G2 w o' with
          | none => rw [q4] at h2; exact h2.elim
          | some y => rw [q4] at h2; exact h2
theorem x_mmD {mm : MM} {id : String} {name : Str} {o a : Expr} {es : List Expr} {apos cpos : Pos} {ra : Ev} {rs : List S → List O → R (List D)} (hK : X.K = T.K) (hn : mmDict mm = true) (slot : Slot "dict" name id) (hty : typeOf (.builtin id) = pure (.type "method_descriptor")) (hm : MtR X id (rMM T mm)) (ho : PE X o (tE T Wx ra)) (ha : PA X (a :: es) (tDs T Wx rs))
    (hbase : attributeBase o name X.env (eval o X.env) = eval o X.env)
    (hfew : ((backTo cpos (starEach (a :: es) X.env)).all (fun x => !x.1) && (backToKw cpos (keywordEach [] X.env)).all (fun x => x.1.isSome)
      && decide ((a :: es).length + ([] : List Keyword).length + (if ([] : List Keyword).isEmpty then 0 else 1) < 30)) = true)
    (hline : (apos.endLine == cpos.line) = true) (hs : starEach (a :: es) X.env = (false, eval a X.env) :: starEach es X.env) (hplain : (backTo cpos (starEach es X.env)).any (·.1) = false) :
    PE X (.Call (.Attribute o name apos) (a :: es) [] cpos) (tE T Wx (evMM mm ra rs)) :=
  PE.imp (pe_bm F.plainAttrs_dict slot hty hm (PE.imp ho fun _ _ _ => tE_of_tW) ha hbase hfew hline hs hplain) fun σ H Q h => by rw [hK]; exact tMMd hn h
/-- d.get(k) -/
theorem m_dget (hu : X.A.units + 64 < cLine) : MtR X "dict.get" (rMM T .dget) := by
  intro pins s σ H x vs v us Q I rx rv ⟨Rs, m, G, e, σ0, w, ds, g, sl, dw, dl, h⟩
  obtain ⟨o, r, o', h1, h2, h3⟩ := mmop_at h
  rcases h3 with ⟨_, h3⟩ | ⟨z, _⟩
  · match ds, h2, dl with
    | [k], h2, ⟨y, ys, e1, dk, e2⟩ =>
      have e2 : ys = [] := e2
      subst e1 e2
      obtain ⟨u, rfl, ru⟩ := rv.one
      have h2' : (rdK o k).map (fun r => (W.d (r.getD .non), o)) = some (r, o') := h2
      cases q : rdK o k with
      | none => rw [q] at h2'; cases h2'
      | some z =>
        rw [q] at h2'
        cases h2'
        obtain ⟨p, rfl, dno⟩ := rdO_at g sl dw.toW h1
        obtain ⟨ov, dg, lk⟩ := rdK_at g.fz dno dk q
        cases rx
        refine d_get1 (by omega) I dg ru fun w' s' I' rw' => ⟨_, H, I', rw', ?_⟩
        refine h3 m H (Wd.le.refl _) g sl _ ?_
        cases z with
        | none =>
          have : ov = none := lk
          rw [this]
          exact rfl
        | some d =>
          obtain ⟨v', rfl, dv⟩ := lk
          exact dv
    | [], h2, _ => cases o <;> cases h2
    | a :: b :: c, h2, _ => cases o <;> cases h2
  · cases z
/-! ### d.update(d2), keys tuples -/
def mergeK (ys zs : List (List Key × V)) : List (List Key × V) := zs.foldl (fun a p => putK a p.1 p.2) ys
theorem mergeK_len : ∀ (zs ys : List (List Key × V)), (mergeK ys zs).length ≤ ys.length + zs.length
  | [], ys => Nat.le_refl _
  | z :: zs, ys => by
    show (mergeK (putK ys z.1 z.2) zs).length ≤ _
    have h1 := mergeK_len zs (putK ys z.1 z.2)
    have h2 := length_putK ys z.1 z.2
    rw [List.length_cons]
    omega
theorem mergeT_den : ∀ {more kvs : List (D × D)} {zs ys : List (List Key × V)}, DenT T m more zs → DenT T m kvs ys → DenT T m (mergeD kvs more) (mergeK ys zs)
  | [], kvs, zs, ys, h, k => by
    have e : zs = [] := h
    subst e
    exact k
  | (.tup ds, d) :: r, kvs, zs, ys, ⟨q, qs, e, ab, l⟩, k => by
    subst e
    have e2 : ds = q.1.map keyD := denL_keys ab.1
    subst e2
    have := mergeT_den (kvs := putD kvs (.tup (q.1.map keyD)) d) (ys := putK ys q.1 q.2) l (put_denT ab.2 k)
    exact this
  | (.non, d) :: r, kvs, zs, ys, ⟨q, qs, e, a, l⟩, k => a.elim
  | (.bl _, d) :: r, kvs, zs, ys, ⟨q, qs, e, a, l⟩, k => a.elim
  | (.int _, d) :: r, kvs, zs, ys, ⟨q, qs, e, a, l⟩, k => a.elim
  | (.str _, d) :: r, kvs, zs, ys, ⟨q, qs, e, a, l⟩, k => a.elim
  | (.obj _, d) :: r, kvs, zs, ys, ⟨q, qs, e, a, l⟩, k => a.elim
  | (.g _, d) :: r, kvs, zs, ys, ⟨q, qs, e, a, l⟩, k => a.elim
  | (.scr _, d) :: r, kvs, zs, ys, ⟨q, qs, e, a, l⟩, k => a.elim
theorem merge_kt {H : Hp} {zs : List (List Key × V)} {bs : List (List Key × Addr × Value)} (r2 : KT H zs bs) : ∀ {ys : List (List Key × V)} {as : List (List Key × Addr × Value)}, KT H ys as → KT H (mergeK ys zs) (storedAllH as bs) := by
  induction r2 with
  | nil => exact fun r => r
  | @cons p q ps qs h t ih =>
    intro ys as r
    obtain ⟨e, hb, rv⟩ := h
    show KT H (mergeK (putK ys p.1 p.2) ps) (storedAllH (storedH as q.1 q.2.1 q.2.2) qs)
    rw [← e]
    exact ih (r.put p.1 hb rv)
theorem ints_keys : ∀ {ks : List Key} {is : List Int}, intsD (ks.map keyD) = some is → ks = is.map Sum.inl
  | [], is, h => by cases h; rfl
  | .inl i :: ks, is, h => by
    have h' : (intsD (ks.map keyD)).map (i :: ·) = some is := h
    cases q : intsD (ks.map keyD) with
    | none => rw [q] at h'; cases h'
    | some js =>
      rw [q] at h'
      cases h'
      rw [ints_keys q]
      rfl
  | .inr x :: ks, is, h => by cases h
theorem hsh_key {P : Program} {w : World} {ks : List Key} {z : Int} (h : hshT (.tup (ks.map keyD)) = some z) : (tupleKind (mixKind P w)).hash ks = z := by
  have h' : (intsD (ks.map keyD)).map (fun is => reduceHash (Builtin.Tuple.tupleHashOf (is.map hashInt))) = some z := h
  cases q : intsD (ks.map keyD) with
  | none => rw [q] at h'; cases h'
  | some is =>
    rw [q] at h'
    cases h'
    rw [ints_keys q]
    show reduceHash (Builtin.Tuple.tupleHashOf ((is.map Sum.inl).map (keyH w))) = _
    rw [List.map_map]
    rfl
theorem hsh_map {P : Program} {w : World} {H : Hp} : ∀ {more : List (D × D)} {zs : List (List Key × V)} {bs : List (List Key × Addr × Value)}, DenT T m more zs → KT H zs bs → (∀ p ∈ more, (hshT p.1).isSome = true) → more.map (fun p => hshT p.1) = bs.map fun x => some ((tupleKind (mixKind P w)).hash x.1)
  | [], zs, bs, h, k, _ => by
    have e : zs = [] := h
    subst e
    cases k
    rfl
  | (.tup ds, d) :: r, zs, bs, ⟨q, qs, e, ab, l⟩, k, hs => by
    subst e
    cases k with
    | @cons _ b _ bs h k =>
      have e2 : ds = q.1.map keyD := denL_keys ab.1
      subst e2
      have h0 := hs _ List.mem_cons_self
      cases hz : hshT (.tup (q.1.map keyD)) with
      | none => rw [hz] at h0; cases h0
      | some z =>
        rw [List.map_cons, List.map_cons, hsh_map l k fun p hp => hs p (List.mem_cons_of_mem _ hp), hz, ← h.1, hsh_key hz]
  | (.non, d) :: r, zs, bs, ⟨q, qs, e, a, l⟩, k, _ => a.elim
  | (.bl _, d) :: r, zs, bs, ⟨q, qs, e, a, l⟩, k, _ => a.elim
  | (.int _, d) :: r, zs, bs, ⟨q, qs, e, a, l⟩, k, _ => a.elim
  | (.str _, d) :: r, zs, bs, ⟨q, qs, e, a, l⟩, k, _ => a.elim
  | (.obj _, d) :: r, zs, bs, ⟨q, qs, e, a, l⟩, k, _ => a.elim
  | (.g _, d) :: r, zs, bs, ⟨q, qs, e, a, l⟩, k, _ => a.elim
  | (.scr _, d) :: r, zs, bs, ⟨q, qs, e, a, l⟩, k, _ => a.elim
theorem nodup_some {α β : Type} {l : List α} {f : α → β} (h : (l.map fun x => some (f x)).Nodup) : (l.map f).Nodup := by
  unfold List.Nodup at h ⊢
  rw [List.pairwise_map] at h ⊢
  exact h.imp fun ne z => ne (by rw [z])
theorem upd_args {o o' : O} {r : W} {ds : List D} (h : mmO .upd o ds e G = some (r, o')) : ∃ kvs more, o = .dT kvs ∧ ds = [.obj (.dT more)] ∧ kvs.length + more.length ≤ sLn ∧ (kvs.isEmpty = false ∨ hshOk more = true) ∧ r = .d .non ∧ o' = .dT (mergeD kvs more) := by
  unfold mmO at h
  split at h <;> first | (rename_i q; cases q; done) | skip
  all_goals first | (cases h; done) | skip
  rename_i kvs more
  split at h
  · rename_i hc
    cases h
    exact ⟨_, _, rfl, rfl, hc.1, hc.2, rfl, rfl⟩
  · cases h
theorem m_upd (hu : X.A.units + 64 < cLine) : MtR X "dict.update" (rMM T .upd) := by
  intro pins s σ H x vs v us Q I rx rv ⟨Rs, m, G, e, σ0, w, ds, g, sl, dw, dl, h⟩
  obtain ⟨o, r, o', h1, h2, h3⟩ := mmop_at h
  rcases h3 with ⟨z, _⟩ | ⟨_, e', G', h4, h5⟩
  · cases z
  obtain ⟨kvs, more, rfl, rfl, hz, hh, rfl, rfl⟩ := upd_args h2
  obtain ⟨y, ys0, e1, ⟨b, rfl, zs, hb, dm⟩, e2⟩ := dl
  have e2 : ys0 = [] := e2
  subst e1 e2
  obtain ⟨u, rfl, ru⟩ := rv.one
  obtain ⟨p, rfl, dno, hF, hR⟩ := own_at g sl dw h1 h4
  obtain ⟨ys, hH, dk⟩ := dno
  cases rx
  cases ru
  have hHb := g.fz _ _ hb
  have ne : p ≠ b := fun z => by rw [z, hb] at hF; cases hF
  obtain ⟨z1, d1, as, r1, dd1⟩ := dt_of I.hok hH
  obtain ⟨z2, d2, bs, r2, dd2⟩ := dt_of I.hok hHb
  have la := Paired.length r1
  have lb := Paired.length r2
  have hdn : DenO T m (upd H p (.dT (mergeK ys zs))) false (.dT (mergeD kvs more)) p := ⟨_, upd_same, mergeT_den dm dk⟩
  obtain ⟨g2, s2⟩ := up_ok (u := .dT (mergeK ys zs)) g sl dw h1 h4 hF hR hdn (fun _ _ z => by cases z)
  have len := mergeK_len zs ys
  have lk := dk.length
  have lm := dm.length
  have hz' : kvs.length + more.length ≤ sizeLine := hz
  refine call_update_dictH (show X.A.units + 1 < cLine by omega) ne d2 dd1 dd2 ?_ (by omega) fun h' da db hs => ?_
  · rcases hh with q | q
    · refine .inl fun z => ?_
      rw [z] at la
      have : kvs = [] := List.eq_nil_of_length_eq_zero (by rw [lk]; simpa using la)
      rw [this] at q
      cases q
    · unfold hshOk at q
      simp only [Bool.and_eq_true, List.all_eq_true, decide_eq_true_eq] at q
      have nd := q.2
      rw [hsh_map (P := X.prog) (w := X.w) dm r2 q.1] at nd
      exact .inr ⟨keyed_apart tupleKind_stays dd2, nodup_some nd⟩
  · obtain ⟨q, es, ep, hq, hk2, hk3, hk4, _, hk5⟩ := da
    refine ⟨.non, _, d_write (t' := s.toks) (ob := .dT (mergeK ys zs)) I (by rw [hH]; exact True.intro) hs ⟨q, hq⟩ ⟨by omega, d1, _, (merge_kt r2 r1).keeps fun c ys ec => ?_, q, es, ep, hq, hk2, hk3, hk4, hk5⟩, rfl, h5 m _ (Wd.le.refl _) g2 s2 _ rfl⟩
    rw [upd_ne (fun w => by rw [w, hH] at ec; cases ec)]
    exact ec
end
end Mn
/-! Sq1: a set is filled from what an iterator yields, keys of any kind. -/
namespace Sq
open PySem PySem.Spec PyProof.Rows L2
section
variable {κ : Type} [dq : DecidableEq κ]
/-- the keys met, the newest first -/
def met : List κ → List κ → List κ
  | seen, [] => seen
  | seen, k :: ks => met (if k ∈ seen then seen else k :: seen) ks
theorem met_le : ∀ (ks seen : List κ), (met seen ks).length ≤ seen.length + ks.length
  | [], seen => Nat.le_refl _
  | k :: ks, seen => by
    refine Nat.le_trans (met_le ks _) ?_
    split <;> simp only [List.length_cons] <;> omega
variable {P : Program} {w : World} {knd : KeyKind P w κ}
def Holds (knd : KeyKind P w κ) (h : Heap) (a : Addr) (seen : List κ) : Prop := h.SetOf knd a (fun k => decide (k ∈ seen)) seen.length
theorem Holds.on {h h' : Heap} {a : Addr} {seen : List κ} (x : Holds knd h a seen) (f : ∀ o, h.get? a = some o → h'.get? a = some o) : Holds knd h' a seen :=
  let ⟨o, es, ep, t, q, r⟩ := x; ⟨o, es, ep, t, f o q, r⟩
theorem add_key {A : Around} {E : Value → Shared → Prop} {s : Shared} {a : Addr} {seen : List κ} {k : κ} {v : Value} {Q : Bool → Shared → Prop} (x : Holds knd s.heap a seen) (i : knd.is k v = true) (c : v.scannable = true) (room : seen.length + 1 < scanBound)
    (q : ∀ b h' tk, Heap.SameBut a s.heap h' → Holds knd h' a (if k ∈ seen then seen else k :: seen) → Q b { s with heap := h', toks := tk }) : wpAny (model P w) A (setAdd a v) Q E s := by
  unfold setAdd
  refine wpAny_holding (wpAny_bind (knd.pyHash i (wpAny_setAddHashed_of (s := { s with toks := s.toks + 1 }) i c x room fun h' sb y => q _ h' _ sb ?_)))
  have e : (fun k' => decide (k' ∈ seen) || decide (k' = k)) = fun k' => decide (k' ∈ if k ∈ seen then seen else k :: seen) := by
    funext k'
    by_cases m : k ∈ seen
    · rw [if_pos m]
      by_cases z : k' = k <;> simp [z, m]
    · rw [if_neg m, Bool.eq_iff_iff]
      simp [or_comm]
  have l : (if decide (k ∈ seen) = true then seen.length else seen.length + 1) = (if k ∈ seen then seen else k :: seen).length := by
    by_cases m : k ∈ seen <;> simp [m]
  rw [e, l] at y
  exact y
/-- what a turn of the loop asks -/
theorem turn {A : Around} {R : Result → Shared → Prop} {s : Shared} {a it : Addr} (x : wpAny (model P w) A.in1 (pyNext (.ref it)) (fun r s' => match r with
      | none => R (.ok (.ret .none)) s'
      | some v => wpAny (model P w) A.in1 (setAdd a v) (fun _ s2 => codeAny (model P w) A (.builtin "set.update.loop" ⟨[.ref a, .ref it], []⟩) R s2) (fun e s2 => R (.error e) s2) s') (fun e s' => R (.error e) s') s) : codeAny (model P w) A (.builtin "set.update.loop" ⟨[.ref a, .ref it], []⟩) R s := by
  refine codeAny_builtin PyProof.Rows.F.entry_set_update_loop ?_
  rw [Around.under_plainId PyProof.Rows.F.plain_set_update_loop]
  show wpAny _ _ (pyNext (.ref it) >>= _) _ _ _
  refine wpAny_bind (wpAny_mono x (fun r s' y => ?_) fun _ _ z => z)
  cases r with
  | none => exact wpAny_pure y
  | some v => exact wpAny_bind (wpAny_holding (wpAny_mono y (fun _ s2 z => wpAny_pure ⟨plainId_quiet PyProof.Rows.F.plain_set_update_loop _, z⟩) fun _ _ z => z))
theorem fill {A : Around} {R : Result → Shared → Prop} {a it : Addr} {fp wr : List Addr} {n : Nat} {Pv : Nat → Value → Prop} {St : Nat → Heap → Prop} (W : Walks P w A.in1 it fp wr n Pv St) (na : a ∉ fp) : ∀ (ks : List κ) (i : Nat) (s : Shared) (seen : List κ), i + ks.length = n → (∀ j k, ks[j]? = some k → ∀ v, Pv (i + j) v → knd.is k v = true ∧ v.scannable = true) → St i s.heap → Holds knd s.heap a seen → seen.length + ks.length + 1 < scanBound →
    (∀ h' tk, (∀ b o, b ≠ a → b ∉ wr → s.heap.get? b = some o → h'.get? b = some o) → Holds knd h' a (met seen ks) → R (.ok (.ret .none)) { s with heap := h', toks := tk }) → codeAny (model P w) A (.builtin "set.update.loop" ⟨[.ref a, .ref it], []⟩) R s
  | [], i, s, seen, e, ky, st, x, room, q => turn (W.done s _ _ (e ▸ st) fun h' tk k => q h' tk (fun b o _ m => k b o m) (x.on (k a · (fun m => na (W.sub _ m)))))
  | k :: ks, i, s, seen, e, ky, st, x, room, q => turn (W.item i s _ _ (by simp only [List.length_cons] at e; omega) st fun v h1 t1 pv st1 k1 => by
    obtain ⟨y1, y2⟩ := ky 0 k rfl v pv
    have ne : a ∉ wr := fun m => na (W.sub _ m)
    simp only [List.length_cons] at room e
    refine add_key (x.on (k1 a · ne)) y1 y2 (by omega) fun b h2 t2 sb x2 => ?_
    refine fill W na ks (i + 1) _ _ (by omega) (fun j k' m v' pv' => ky (j + 1) k' m v' (by rwa [Nat.add_assoc, Nat.add_comm 1 j] at pv')) (W.frame _ _ _ st1 fun c m o z => (sb.2 c fun r => na (r ▸ m)).trans z) x2 ?_ fun h3 t3 k3 x3 => ?_
    · split
      · omega
      · simp only [List.length_cons]; omega
    · exact q h3 t3 (fun c o m1 m2 z => k3 c o m1 m2 ((sb.2 c m1).trans (k1 c o m2 z))) x3)
end
end Sq
/-! Sq2: set(x) of a list or a tuple, keys of any kind. -/
namespace Sq
open PySem PySem.Spec PyProof.Rows L2
section
variable {κ : Type} [dq : DecidableEq κ] {P : Program} {w : World} {knd : KeyKind P w κ} {A : Around} {E : Value → Shared → Prop} {s : Shared}
/-- an empty set, as the machine makes it -/
abbrev eset (b : Bool) : Obj := { cls := .type "set", dict := none, data := .set #[] 0 (.fresh 0 0 b) }
/-- what is walked -/
def Row (h : Heap) (l : Addr) (its : Array Value) : Prop := h.IsList l its ∨ h.IsTuple l its
theorem Row.new {h : Heap} {l : Addr} {its : Array Value} {o : Obj} (r : Row h l its) : Row (h.push o) l its := r.imp (·.push _) (·.push _)
theorem Row.lt {h : Heap} {l : Addr} {its : Array Value} (r : Row h l its) : l < h.objs.size := by
  rcases r with ⟨o, e, _⟩ | ⟨o, e, _⟩ <;> exact Heap.lt_size e
/-- the set stands at a, l is walked into it -/
theorem poured (B : Around) {l a : Addr} {its : Array Value} {ks : List κ} {b : Bool} {R : Result → Shared → Prop} (hh : A.handled = none) (r : Row s.heap l its) (ea : s.heap.get? a = some (eset b)) (len : its.size = ks.length)
    (ky : ∀ (j : Nat) (k : κ), ks[j]? = some k → ∀ v, its[j]? = some v → knd.is k v = true ∧ v.scannable = true) (room : ks.length + 1 < scanBound)
    (q : ∀ h' tk, (∀ c o, c ≠ a → s.heap.get? c = some o → h'.get? c = some o) → Holds knd h' a (met [] ks) → R (.ok (.ret .none)) { s with heap := h', toks := tk }) :
    wpAny (model P w) B (pyIter (.ref l)) (fun v s2 => ∃ i, v = .ref i ∧ codeAny (model P w) A (.builtin "set.update.loop" ⟨[.ref a, .ref i], []⟩) R s2) E s := by
  have la := Heap.lt_size ea
  have ll := r.lt
  have n1 : a ≠ s.heap.objs.size := Nat.ne_of_lt la
  have n2 : l ≠ s.heap.objs.size := Nat.ne_of_lt ll
  have n3 : a ≠ l := fun z => by
    subst z
    rcases r with ⟨o, x, y, _⟩ | ⟨o, x, y, _⟩ <;> (rw [ea] at x; cases x; simp at y)
  have ne : a ∉ [s.heap.objs.size, l] := by simp [n1, n3]
  have fin : ∀ (o : Obj), Holds knd (s.heap.push o) a ([] : List κ) ∧ ∀ h' tk, (∀ c o', c ≠ a → c ∉ [s.heap.objs.size] → (s.heap.push o).get? c = some o' → h'.get? c = some o') → Holds knd h' a (met [] ks) → R (.ok (.ret .none)) { s with heap := h', toks := tk } := fun o => by
    refine ⟨?_, fun h' tk k z => q h' tk (fun c o' m x => k c o' m (by simp; exact Nat.ne_of_lt (Heap.lt_size x)) (Heap.get?_push_of_some _ x)) z⟩
    exact PyProof.Rows.SetOf_congr ((PyProof.Rows.setObjOf_fresh (knd := knd) b).setOf (Heap.get?_push_of_some _ ea) (by decide)) (fun _ => rfl) rfl
  rcases r with r | r
  · refine wpAny_pyIter_list r ⟨_, rfl, ?_⟩
    exact fill (Walks.list (by simp [hh]) _ l n2 its) ne ks 0 _ [] (by omega) (fun j k m v pv => ky j k m v (by rwa [Nat.zero_add] at pv)) ⟨⟨_, Heap.get?_push_size _ rfl, rfl, rfl⟩, r.push _⟩ (fin _).1 (by simpa using room) (fin _).2
  · refine wpAny_pyIter_tuple r ⟨_, rfl, ?_⟩
    exact fill (Walks.tuple (by simp [hh]) _ l n2 its) ne ks 0 _ [] (by omega) (fun j k m v pv => ky j k m v (by rwa [Nat.zero_add] at pv)) ⟨⟨_, Heap.get?_push_size _ rfl, rfl, rfl⟩, r.push _⟩ (fin _).1 (by simpa using room) (fin _).2
set_option maxHeartbeats 3200000 in
/-- the __init__ of the set at a -/
theorem init {l a : Addr} {its : Array Value} {ks : List κ} {b : Bool} {R : Result → Shared → Prop} (hh : A.handled = none) (r : Row s.heap l its) (ea : s.heap.get? a = some (eset b)) (len : its.size = ks.length)
    (ky : ∀ (j : Nat) (k : κ), ks[j]? = some k → ∀ v, its[j]? = some v → knd.is k v = true ∧ v.scannable = true) (room : ks.length + 1 < scanBound)
    (q : ∀ h' tk, (∀ c o, c ≠ a → s.heap.get? c = some o → h'.get? c = some o) → Holds knd h' a (met [] ks) → R (.ok (.ret .none)) { s with heap := h', toks := tk }) :
    codeAny (model P w) A (.call (.builtin "set.__init__") ⟨[.ref a, .ref l], []⟩) R s := by
  have is : Shared.TypeIs s (.ref a) "set" := ⟨_, ea, rfl⟩
  refine codeAny_call_builtin PySem.F.called_set.init.plain PySem.F.entry_set_init (check_set_init_1 is ?_)
  have key := poured (A := A.in1) (R := fun r s' => match r with | .ok (.ret v) => R (.ok (.ret .none)) s' | _ => False) (E := fun e s' => R (.error e) s') A.in1 (by simp [hh]) r ea len ky room q
  have f1 := PySem.F.sub_list_set
  have f2 := PySem.F.sub_tuple_set
  have f3 := PySem.F.sub_list_frozenset
  have f4 := PySem.F.sub_tuple_frozenset
  rcases r with ⟨⟨oc, od, ot, os⟩, x, y, m, z⟩ | ⟨⟨oc, od, ot, os⟩, x, y, m, z⟩
  all_goals
    dsimp only at y z
    subst y z
    unfold Builtin.«set.__init__» noKeywords Builtin.Frozenset.updateFrom
    have g1 : (Value.type "list" == Value.type "dict") = false := by decide
    have g2 : (Value.type "tuple" == Value.type "dict") = false := by decide
    generalize hq : pyIter = PI at key ⊢
    wp_walk
    subst hq
    refine wpAny_mono key (fun v s2 ⟨i, e, k⟩ => ?_) fun _ _ z => z
    subst e
    refine wpAny_bind (wpAny_runValue (codeAny_mono k fun r s3 z => ?_))
    cases r with
    | error e => exact z.elim
    | ok f =>
      cases f with
      | ret v => exact wpAny_pure (wpAny_pure z)
      | _ => exact z.elim
set_option maxHeartbeats 3200000 in
/-- set(x): a new set of the keys met -/
theorem made {l : Addr} {its : Array Value} {ks : List κ} {Q : Value → Shared → Prop} (hh : A.handled = none) (r : Row s.heap l its) (len : its.size = ks.length)
    (ky : ∀ (j : Nat) (k : κ), ks[j]? = some k → ∀ v, its[j]? = some v → knd.is k v = true ∧ v.scannable = true) (room : ks.length + 1 < scanBound)
    (q : ∀ h' tk, (∀ c o, s.heap.get? c = some o → h'.get? c = some o) → Holds knd h' s.heap.objs.size (met [] ks) → Q (.ref s.heap.objs.size) { s with heap := h', toks := tk }) :
    wpAny (model P w) A (call (.type "set") [.ref l]) Q E s := by
  have k1 := PySem.F.called_set.notType
  have k2 := PySem.F.called_set.canCreate
  have k3 := PySem.F.typeCall_set_1 (.ref l)
  have k4 := PySem.F.called_set.made
  have k5 := PySem.F.called_set.sub
  obtain ⟨mc, mt, k6⟩ := PySem.F.called_set.mro
  refine wpAny_call (codeAny_of_tree ?_)
  have step : ∀ {B : Around} {R2 : PySem.Fin → Shared → Prop} {E2 : Value → Shared → Prop}, R2 (.again (.builtin "type.__call__" ⟨.type "set" :: [.ref l], []⟩)) s → wpAny (model P w) B (callAny (.type "set") ⟨[.ref l], []⟩) R2 E2 s := fun z => wpAny_pure z
  refine step ⟨Code.quiet_builtin _ (by decide +kernel), codeAny_builtin PySem.F.entry_type_call ?_⟩
  rw [Around.under_plain (weight_type_call_type "set" [.ref l] []) rfl]
  repeat (any_goals (first | assumption | wp_step))
  refine codeAny_mono (code_set_new_1 (.ref l) (E := E) (Q₁ := fun v s1 => v = .ref s.heap.objs.size ∧ ∃ b, s1 = { s with heap := s.heap.push (eset b) }) fun b => ⟨rfl, b, rfl⟩) fun res s1 z => ?_
  rcases res with e | f
  · exact z
  · cases f with
    | ret v =>
      obtain ⟨e1, b, e2⟩ := z
      subst e1 e2
      have at_ : (s.heap.push (eset b)).get? s.heap.objs.size = some (eset b) := Heap.get?_push_size _ rfl
      have is : Shared.TypeIs { s with heap := s.heap.push (eset b) } (.ref s.heap.objs.size) "set" := ⟨_, at_, rfl⟩
      have k7 := PySem.F.called_set.init.lookup
      have k8 := PySem.F.called_set.init.bind (.ref s.heap.objs.size)
      repeat (any_goals (first | assumption | wp_step))
      refine codeAny_mono (init (R := fun res s2 => res = .ok (.ret .none) ∧ ∃ h' tk, s2 = { s with heap := h', toks := tk } ∧ (∀ c o, s.heap.get? c = some o → h'.get? c = some o) ∧ Holds knd h' s.heap.objs.size (met [] ks)) (by simp [hh]) r.new at_ len ky room fun h' tk k hd => ⟨rfl, h', tk, rfl, fun c o x => k c o (Nat.ne_of_lt (Heap.lt_size x)) (Heap.get?_push_of_some _ x), hd⟩) fun res s2 z => ?_
      obtain ⟨e3, h', tk, e4, k, hd⟩ := z
      subst e3 e4
      repeat (any_goals (first | assumption | wp_step))
      exact q h' tk k hd
    | _ => exact z.elim
end
end Sq
/-! Sq3: len(set(x)) of texts. -/
namespace Mn
open PySem PySem.Spec PyProof.Rows L2
theorem mets_met : ∀ (ks seen : List Str), mets seen ks = Sq.met seen ks
  | [], _ => rfl
  | k :: ks, seen => mets_met ks _
theorem strsD_at {T : Tb} {m : Wd} : ∀ {ds : List D} {zs : List Str} {vs : List V}, strsD ds = some zs → DenL T m ds vs → vs = zs.map V.str
  | [], zs, vs, h, d => by
    cases h
    exact d
  | .str z :: ds, zs, vs, h, ⟨v, vs', e, a, b⟩ => by
    have h' : (strsD ds).map (z :: ·) = some zs := h
    cases q : strsD ds with
    | none => rw [q] at h'; cases h'
    | some ys =>
      rw [q] at h'
      cases h'
      rw [e, strsD_at q b]
      have ea : v = .str z := a
      rw [ea]
      rfl
  | .non :: ds, _, _, h, _ => nomatch (show (none : Option (List Str)) = some _ from h)
  | .bl _ :: ds, _, _, h, _ => nomatch (show (none : Option (List Str)) = some _ from h)
  | .int _ :: ds, _, _, h, _ => nomatch (show (none : Option (List Str)) = some _ from h)
  | .tup _ :: ds, _, _, h, _ => nomatch (show (none : Option (List Str)) = some _ from h)
  | .obj _ :: ds, _, _, h, _ => nomatch (show (none : Option (List Str)) = some _ from h)
  | .g _ :: ds, _, _, h, _ => nomatch (show (none : Option (List Str)) = some _ from h)
  | .scr _ :: ds, _, _, h, _ => nomatch (show (none : Option (List Str)) = some _ from h)
section
variable {T : Tb} {Wx : WX} {X : Cx}
theorem x_setlen (hc : X.calm = true) {a : Expr} {p p2 pos pos2 : Pos} {ra : Ev} (hg : Gl X "len") (hm : X.mg "len" = none) (hg2 : Gl X "set") (hm2 : X.mg "set" = none) (ha : PE X a (tE T Wx ra)) (hK : X.K = T.K := by rfl)
    (hs : starEach [a] X.env = (false, eval a X.env) :: starEach [] X.env) : PE X (.Call (.Name "len" p) [.Call (.Name "set" p2) [a] [] pos2] [] pos) (tE T Wx (evB1 .setlen ra)) := by
  constructor
  intro pins s σ H Q I h
  have h2 : (tE T Wx ra) σ H fun v H1 => rB1 T .setlen [v] H1 Q := tB1 h
  refine Call_ (ld_blt I hg hm boot_len (PyProof.Rows.callWith_builtin1 (PyProof.Rows.args_cons (Call_ (ld_blt I hg2 hm2 boot_set (PyProof.Rows.callWith_type1 (PyProof.Rows.args_cons (thn (ha.run pins s σ H _ I h2) ?_) hs) hs rfl))) rfl) rfl rfl))
  rintro v s1 ⟨x, H1, I1, r1, ⟨Rs, m, G, e, σ0, w, v1, r, g, sl, ev, dw, hb, q⟩⟩
  cases ev
  have hb' : (match (rdL e G w).bind strsD with | some xs => if xs.length < 1000 then some (W.d (.int (mets [] xs).length)) else none | none => none) = some r := hb
  cases k1 : rdL e G w with
  | none => rw [k1] at hb'; cases hb'
  | some ds =>
    rw [k1] at hb'
    cases k2 : strsD ds with
    | none => simp only [Option.bind, k2] at hb'; cases hb'
    | some zs =>
      simp only [Option.bind, k2] at hb'
      by_cases hz : zs.length < 1000
      · rw [if_pos hz] at hb'
        cases hb'
        obtain ⟨l, xs, rfl, dl, src⟩ := rdL_at g sl dw k1
        have ex := strsD_at k2 dl
        subst ex
        cases r1
        have row : ∃ its : List Value, Vals (zs.map V.str) its ∧ Sq.Row s1.heap l its.toArray := by
          rw [← hK] at src
          rcases src with src | src
          · obtain ⟨its, vr, pl, _⟩ := I1.list src
            exact ⟨its, vr, .inl pl.isList⟩
          · obtain ⟨its, vr, pl, _⟩ := I1.tuple src
            exact ⟨its, vr, .inr pl⟩
        obtain ⟨its, vr, row⟩ := row
        have hl : its.toArray.size = zs.length := by
          rw [List.size_toArray, ← vr.length, List.length_map]
        have lm : (Sq.met [] zs).length ≤ zs.length := by simpa using Sq.met_le zs []
        refine PyProof.Rows.args_nil (Sq.made (knd := PySem.strKind X.prog X.w) (ks := zs) (I1.ok.hd hc) row hl (fun j k ek v ev => ?_) (by unfold scanBound; omega) fun h' tk kp hold => PyProof.Rows.args_nil ?_)
        · obtain ⟨u, hu, ru⟩ := vr.get (i := j) (x := .str k) (by rw [List.getElem?_map, ek] <;> rfl)
          obtain ⟨t, eu⟩ := ru
          have ev2 : its[j]? = some v := by simpa using ev
          rw [hu] at ev2
          cases ev2
          rw [eu]
          exact ⟨strKind_is _ _ _ _, rfl⟩
        · obtain ⟨o, es, ep, t, ho, hex, hd, _, _, _, hf, hn⟩ := hold
          have I2 : Inv X pins σ H1 { s1 with heap := h', toks := tk } := I1.kept kp
          refine call_len_set ho hex hd hf (by rw [hn]; omega) ⟨.int (mets [] zs).length, H1, I2.tok _, ⟨_, by rw [hn, mets_met]⟩, ?_⟩
          exact q _ m H1 (Wd.le.refl _) g sl rfl
      · rw [if_neg hz] at hb'
        cases hb'
end
end Mn
/-! Mn22: .. the rest of the expressions. -/
namespace Mn
open PySem PySem.Spec PyProof.Rows L2
section
variable {T : Tb} {k : Ck} {gl : Nat → W} {cl : Call} {n : Nat}
theorem snd_b1 {m : B1} {a : E} (ia : SndE T k gl cl n a) : SndE T k gl cl n (.b1 m a) := fun Wx X s C => both fun b ex h => by
  have h' : (match asCal ex with
    | some (x, [y], [], _) => (match asName x with
      | some (z, _) => (match (generalizing := false) m with
        | .rng => z == ("list" : Str) && bnOk k s "list" && bnOk k s "range" && (match asCal y with
          | some (x2, [y2], [], _) => (match asName x2 with
            | some (z2, _) => z2 == ("range" : Str) && plain y2 && chk k a s false y2
            | none => false)
          | _ => false)
        | .setlen => z == ("len" : Str) && bnOk k s "len" && bnOk k s "set" && (match asCal y with
          | some (x2, [y2], [], _) => (match asName x2 with
            | some (z2, _) => z2 == ("set" : Str) && plain y2 && chk k a s false y2
            | none => false)
          | _ => false)
        | m => (match b1fn m with
          | some (w, _) => z == w && bnOk k s w && plain y && chk k a s false y
          | none => false))
      | none => false)
    | _ => false) = true := h
  split at h'
  · rename_i x y p q
    cases q2 : asName x with
    | none => rw [q2] at h'; cases h'
    | some z =>
      obtain ⟨z, p2⟩ := z
      rw [q2] at h'
      dsimp only at h'
      rw [asCal_eq q]
      dsimp only
      rw [asName_eq q2]
      refine ⟨?_, rfl⟩
      have gen : (match b1fn m with
          | some (w, _) => z == w && bnOk k s w && plain y && chk k a s false y
          | none => false) = true → PE X (.Call (.Name z p2) [y] [] p) (tE T Wx (evE cl gl (.b1 m a))) := fun h' => by
        cases q3 : b1fn m with
        | none => rw [q3] at h'; cases h'
        | some wv =>
          obtain ⟨w, fv⟩ := wv
          rw [q3] at h'
          simp only [Bool.and_eq_true, beq_iff_eq] at h'
          obtain ⟨⟨⟨rfl, h2⟩, h3⟩, h4⟩ := h'
          obtain ⟨b1, b2, b3⟩ := C.bn_ h2
          obtain ⟨e1, e2, e3, e4⟩ := b1_ok C q3
          rcases e3 with ⟨id, rfl⟩ | ⟨id, rfl⟩
          · exact x_b1 e4 b1 b2 e1 ((ia Wx X s C).1 _ h4) e2 b3 (star_cons h3)
          · exact x_b1t e4 b1 b2 e1 ((ia Wx X s C).1 _ h4) e2 b3 (star_cons h3)
      cases m with
      | rng =>
        simp only [Bool.and_eq_true, beq_iff_eq] at h'
        obtain ⟨⟨⟨rfl, h2⟩, h3⟩, h4⟩ := h'
        split at h4
        · rename_i x2 y2 p3 q3
          cases q4 : asName x2 with
          | none => rw [q4] at h4; cases h4
          | some z2 =>
            obtain ⟨z2, p4⟩ := z2
            rw [q4] at h4
            simp only [Bool.and_eq_true, beq_iff_eq] at h4
            obtain ⟨⟨rfl, h5⟩, h6⟩ := h4
            obtain ⟨b1, b2, b3⟩ := C.bn_ h2
            obtain ⟨c1, c2, c3⟩ := C.bn_ h3
            rw [asCal_eq q3]
            dsimp only
            rw [asName_eq q4]
            exact x_rg1 C.calm b1 b2 c1 c2 ((ia Wx X s C).1 _ h6) (star_cons h5)
        · cases h4
      | setlen =>
        simp only [Bool.and_eq_true, beq_iff_eq] at h'
        obtain ⟨⟨⟨rfl, h2⟩, h3⟩, h4⟩ := h'
        split at h4
        · rename_i x2 y2 p3 q3
          cases q4 : asName x2 with
          | none => rw [q4] at h4; cases h4
          | some z2 =>
            obtain ⟨z2, p4⟩ := z2
            rw [q4] at h4
            simp only [Bool.and_eq_true, beq_iff_eq] at h4
            obtain ⟨⟨rfl, h5⟩, h6⟩ := h4
            obtain ⟨b1, b2, b3⟩ := C.bn_ h2
            obtain ⟨c1, c2, c3⟩ := C.bn_ h3
            rw [asCal_eq q3]
            dsimp only
            rw [asName_eq q4]
            exact x_setlen C.calm b1 b2 c1 c2 ((ia Wx X s C).1 _ h6) C.K (star_cons h5)
        · cases h4
      | _ => exact gen h'
  · cases h'
theorem snd_b2 {m : B2} {a c : E} (ia : SndE T k gl cl n a) (ic : SndE T k gl cl n c) : SndE T k gl cl n (.b2 m a c) := fun Wx X s C => both fun b ex h => by
  have h' : (match asCal ex with
    | some (x, [y, y'], [], _) => (match asName x with
      | some (z, _) => (match b2fn m with
          | some w => z == w && bnOk k s w && plain y && plain y' && chk k a s false y && chk k c s false y'
          | none => false)
      | none => false)
    | _ => false) = true := h
  split at h'
  · rename_i x y y' p q
    cases q2 : asName x with
    | none => rw [q2] at h'; cases h'
    | some z =>
      obtain ⟨z, p2⟩ := z
      rw [q2] at h'
      dsimp only at h'
      rw [asCal_eq q]
      dsimp only
      rw [asName_eq q2]
      refine ⟨?_, rfl⟩
      cases q3 : b2fn m with
      | none => rw [q3] at h'; cases h'
      | some w =>
        rw [q3] at h'
        simp only [Bool.and_eq_true, beq_iff_eq] at h'
        obtain ⟨⟨⟨⟨⟨rfl, h2⟩, h3⟩, h4⟩, h5⟩, h6⟩ := h'
        obtain ⟨b1, b2, b3⟩ := C.bn_ h2
        cases m with
        | min => cases q3; exact x_b2 (fun z => nomatch z) (c_min2 C.calm) b1 b2 boot_min' ((ia Wx X s C).1 _ h5) ((ic Wx X s C).1 _ h6) (by show ("min" : Str) ≠ "__name__"; decide) b3 (star_cons h3) (star_cons h4)
        | max => cases q3; exact x_b2 (fun z => nomatch z) (c_max2 C.calm) b1 b2 boot_max' ((ia Wx X s C).1 _ h5) ((ic Wx X s C).1 _ h6) (by show ("max" : Str) ≠ "__name__"; decide) b3 (star_cons h3) (star_cons h4)
        | _ => cases q3
  · cases h'
theorem snd_isi {t : Ty} {a : E} (ia : SndE T k gl cl n a) : SndE T k gl cl n (.isi a t) := fun Wx X s C => both fun b ex h => by
  have h' : (match asCal ex with
    | some (x, [y, y'], [], _) => (match asName x with
      | some (z, _) => z == ("isinstance" : Str) && bnOk k s "isinstance" && plain y && tyOk k s t y' && chk k a s false y
      | none => false)
    | _ => false) = true := h
  split at h'
  · rename_i x y y' p q
    cases q2 : asName x with
    | none => rw [q2] at h'; cases h'
    | some z =>
      obtain ⟨z, p2⟩ := z
      rw [q2] at h'
      simp only [Bool.and_eq_true, beq_iff_eq] at h'
      obtain ⟨⟨⟨⟨rfl, h2⟩, h3⟩, h4⟩, h5⟩ := h'
      rw [asCal_eq q]
      dsimp only
      rw [asName_eq q2]
      refine ⟨?_, rfl⟩
      obtain ⟨b1, b2, b3⟩ := C.bn_ h2
      have ha := (ia Wx X s C).1 _ h5
      have one : ∀ {nm : String}, t.one = some nm → (match asName y', t.one with
          | some (x, _), some n => x == Str.ofString n && bnOk k s x
          | _, _ => false) = true → PE X (.Call (.Name "isinstance" p2) [y, y'] [] p) (tE T Wx (evE cl gl (.isi a t))) := fun {nm} ho h4 => by
        cases q3 : asName y' with
        | none => rw [q3] at h4; cases h4
        | some w =>
          obtain ⟨w, p3⟩ := w
          rw [q3, ho] at h4
          simp only [Bool.and_eq_true, beq_iff_eq] at h4
          obtain ⟨rfl, h6⟩ := h4
          obtain ⟨c1, c2, c3⟩ := C.bn_ h6
          obtain ⟨d1, d2⟩ := boot_one ho
          rw [asName_eq q3]
          exact x_isi C.K C.lk.cls C.lk.isl ho b1 b2 boot_isinstance ha c1 c2 d1 d2 c3 (star_cons h3)
      cases t with
      | lt =>
        have h6 : (match asTup y' with
          | some ([a, b], _, _) => (match asName a, asName b with
            | some (x, _), some (z, _) => x == ("list" : Str) && z == ("tuple" : Str) && bnOk k s "list" && bnOk k s "tuple"
            | _, _ => false)
          | _ => false) = true := h4
        split at h6
        · rename_i e1 e2 n1 p3 q3
          cases q4 : asName e1 with
          | none => rw [q4] at h6; cases h6
          | some z1 =>
            cases q5 : asName e2 with
            | none => rw [q4, q5] at h6; cases h6
            | some z2 =>
              obtain ⟨z1, r1⟩ := z1
              obtain ⟨z2, r2⟩ := z2
              rw [q4, q5] at h6
              simp only [Bool.and_eq_true, beq_iff_eq] at h6
              obtain ⟨⟨⟨rfl, rfl⟩, h7⟩, h8⟩ := h6
              obtain ⟨c1, c2, c3⟩ := C.bn_ h7
              obtain ⟨d1, d2, d3⟩ := C.bn_ h8
              rw [asTup_eq q3]
              dsimp only
              rw [asName_eq q4, asName_eq q5]
              exact x_islt C.K C.lk.cls C.lk.isl b1 b2 boot_isinstance ha c1 c2 d1 d2 (star_cons h3)
        · cases h6
      | cls c =>
        have h6 : (match asName y' with
          | some (x, _) => glOk s x && (match k.cn.lookup x with | some c' => c == c' | none => false)
          | none => false) = true := h4
        cases q3 : asName y' with
        | none => rw [q3] at h6; cases h6
        | some w =>
          obtain ⟨w, p3⟩ := w
          rw [q3] at h6
          simp only [Bool.and_eq_true] at h6
          obtain ⟨c1, c2⟩ := C.gl_ h6.1
          have h7 := h6.2
          cases q4 : k.cn.lookup w with
          | none => rw [q4] at h7; cases h7
          | some c' =>
            rw [q4] at h7
            have := eq_of_beq h7
            subst this
            rw [asName_eq q3]
            exact x_isc C.K C.lk.cls C.lk.isl b1 b2 boot_isinstance ha c1 (C.lk.cn _ _ q4) c2 (star_cons h3)
      | _ => exact one rfl h4
  · cases h'
theorem snd_mm {m : MM} {t : E} {es : Es} (it : SndE T k gl cl n t) (ih : SndEs T k gl cl n es) : SndE T k gl cl n (.mm m t es) := fun Wx X s C => both fun b ex h => by
  have h' : (match asCal ex with
    | some (x, as, [], p) => (match asAtt x with
      | some (o, mn, ap) => (match mmOf m with
        | some (w, one) => mn == w && (if one then decide (as.length = 1) else decide (as.length = 0)) && noSuper o && as.all plain && (ap.endLine == p.line) && chk k t s false o && chks k es s as
        | none => false)
      | none => false)
    | _ => false) = true := h
  split at h'
  · rename_i x as p q
    cases q2 : asAtt x with
    | none => rw [q2] at h'; cases h'
    | some z =>
      obtain ⟨o, mn, ap⟩ := z
      rw [q2] at h'
      dsimp only at h'
      rw [asCal_eq q]
      dsimp only
      rw [asAtt_eq q2]
      refine ⟨?_, rfl⟩
      cases q3 : mmOf m with
      | none => rw [q3] at h'; cases h'
      | some w1 =>
        obtain ⟨w, one⟩ := w1
        rw [q3] at h'
        simp only [Bool.and_eq_true, beq_iff_eq] at h'
        obtain ⟨⟨⟨⟨⟨⟨rfl, h2⟩, h3⟩, h4⟩, h5⟩, h6⟩, h7⟩ := h'
        obtain ⟨ok, el⟩ := ih Wx X s C as h7
        have ho := (it Wx X s C).1 _ h6
        have hl : (ap.endLine == p.line) = true := by rw [beq_iff_eq]; exact h5
        have one1 : ∀ {e : Expr}, Mn.plain e = true → ((backTo p (starEach [e] X.env)).all (fun x => !x.1) && (backToKw p (keywordEach [] X.env)).all (fun x => x.1.isSome)
            && decide (([e] : List Expr).length + ([] : List Keyword).length + (if ([] : List Keyword).isEmpty then 0 else 1) < 30)) = true := fun {e} hp => by
          rw [star_all (by rw [List.all_cons, hp] <;> rfl)]
          rfl
        cases m with
        | append =>
          cases q3
          rw [if_pos rfl] at h2
          have h2 := of_decide_eq_true h2
          match as, h2, h4, h7, ok, el with
          | [e], _, h4, h7, ok, el =>
            have hp : Mn.plain e = true := by simpa using h4
            exact x_mm C.K rfl F.slot_list_append F.type_list_append m_append ho (ok.pa C.K) (nosup h3) (one1 hp) hl (star_cons hp) rfl
        | extend =>
          cases q3
          rw [if_pos rfl] at h2
          have h2 := of_decide_eq_true h2
          match as, h2, h4, h7, ok, el with
          | [e], _, h4, h7, ok, el =>
            have hp : Mn.plain e = true := by simpa using h4
            exact x_mm C.K rfl F.slot_list_extend F.type_list_extend m_extend ho (ok.pa C.K) (nosup h3) (one1 hp) hl (star_cons hp) rfl
        | dget =>
          cases q3
          rw [if_pos rfl] at h2
          have h2 := of_decide_eq_true h2
          match as, h2, h4, h7, ok, el with
          | [e], _, h4, h7, ok, el =>
            have hp : Mn.plain e = true := by simpa using h4
            exact x_mmD C.K rfl F.slot_dict_get F.type_dict_get (m_dget C.u) ho (ok.pa C.K) (nosup h3) (one1 hp) hl (star_cons hp) rfl
        | upd =>
          cases q3
          rw [if_pos rfl] at h2
          have h2 := of_decide_eq_true h2
          match as, h2, h4, h7, ok, el with
          | [e], _, h4, h7, ok, el =>
            have hp : Mn.plain e = true := by simpa using h4
            exact x_mmD C.K rfl F.slot_dict_update F.type_dict_update (m_upd C.u) ho (ok.pa C.K) (nosup h3) (one1 hp) hl (star_cons hp) rfl
        | popAt =>
          cases q3
          rw [if_pos rfl] at h2
          have h2 := of_decide_eq_true h2
          match as, h2, h4, h7, ok, el with
          | [e], _, h4, h7, ok, el =>
            have hp : Mn.plain e = true := by simpa using h4
            exact x_mm C.K rfl F.slot_list_pop F.type_list_pop m_popAt ho (ok.pa C.K) (nosup h3) (one1 hp) hl (star_cons hp) rfl
        | pop =>
          cases q3
          simp only [Bool.false_eq_true, if_false] at h2
          have h2 := of_decide_eq_true h2
          match as, h2, h4, h7, ok, el with
          | [], _, h4, h7, ok, el =>
            cases es with
            | nil => exact x_mm0 C.K rfl F.slot_list_pop F.type_list_pop m_pop ho rfl (nosup h3) hl
            | cons _ _ => cases h7
            | star _ _ => cases h7
        | _ => cases q3
  · cases h'
theorem snd_lc {vs : List Nat} {elt : E} {tg : Tg} {it : It} {ifs : Eo} (ie : SndE T k gl cl n elt) (ii : SndI T k gl cl n it) (io : SndEo T k gl cl n ifs)
    (ig : ∀ (X : Cx) (s : Sx), (∀ Wx, Cg T k gl cl n Wx X s → ∀ ex, chkG k s tg ex = true → PG X ex (tG T tg))) : SndE T k gl cl n (.lc vs elt tg it ifs) := fun Wx X s C => both fun b ex h => by
  have h' : (match asLc ex with
    | some (e, [⟨t, i, cs, 0⟩], scope, _) => blkC k.N s.sc scope (vs.filterMap fun v => (k.N[v]?).map fun x => (x, v)) && decide ((vs.filterMap fun v => (k.N[v]?).map fun x => (x, v)).map (·.2) = vs) && decide (∀ j ∈ tg.slots, j ∈ vs) && noSet i && chkG k (inner s scope) tg t && chki k it s t i && chkt k ifs (inner s scope) cs && chk k elt (inner s scope) false e
    | _ => false) = true := h
  split at h'
  · rename_i e t i cs scope p q
    simp only [Bool.and_eq_true, decide_eq_true_eq] at h'
    obtain ⟨⟨⟨⟨⟨⟨⟨h1, h2⟩, h3⟩, h4⟩, h5⟩, h6⟩, h7⟩, h8⟩ := h'
    rw [asLc_eq q]
    dsimp only
    refine ⟨?_, rfl⟩
    have ok : BlkOk X.N X.env.scope scope (vs.filterMap fun v => (k.N[v]?).map fun x => (x, v)) := by
      rw [C.N, C.sc]
      exact blkOk_by h1
    have := x_lc (pos := p) C.calm C.nd_ (ii Wx X s C _ _ h6).1 ok (fun s' H Ca cl' fp => ig _ _ _ (C.in_ scope s' H Ca cl' fp) _ h5) (fun s' H Ca cl' fp => (io _ _ _ (C.in_ scope s' H Ca cl' fp)).2 _ h7) (fun s' H Ca cl' fp => (ie _ _ _ (C.in_ scope s' H Ca cl' fp)).1 _ h8) (by rw [h2]; exact h3) (folded h4)
    rw [h2] at this
    exact this
  · cases h'
/-- the parts of a comprehension over two sources -/
structure Lc2P (T : Tb) (k : Ck) (gl : Nat → W) (cl : Call) (Wx : WX) (X : Cx) (vs : List Nat) (elt : E) (tg : Tg) (it : It) (tg1 : Tg) (it1 : It) (ex e t i t1 i1 : Expr) (scope : Scope) (own : List (Str × Nat)) (p : Pos) : Prop where
  ex_ : ex = .ListComp e [⟨t, i, [], 0⟩, ⟨t1, i1, [], 0⟩] scope p
  own_ : own.map (·.2) = vs
  ok : BlkOk X.N X.env.scope scope own
  hi : PI X t i (tJ T Wx (evI cl gl it))
  hg : AtBlk X scope fun Y => PG Y t (tG T tg)
  ht : AtBlk X scope fun Y => PTs Y [] (tBo T W0 fun e G => .ok true e G)
  hi1 : AtBlk X scope fun Y => PI Y t1 i1 (tI T W0 (evI cl gl it1))
  hg1 : AtBlk X scope fun Y => PG Y t1 (tG T tg1)
  he : AtBlk X scope fun Y => PE Y e (tE T W0 (evE cl gl elt))
  w : ∀ j ∈ tg.slots, j ∈ vs
  w1 : ∀ j ∈ tg1.slots, j ∈ vs
  s : noSet i = true
  s1 : noSet i1 = true
theorem lc2_parts {vs : List Nat} {elt : E} {tg tg1 : Tg} {it it1 : It} (ie : SndE T k gl cl n elt) (ii : SndI T k gl cl n it) (ii1 : SndI T k gl cl n it1) (io : SndEo T k gl cl n .none)
    (ig : ∀ (tg : Tg) (X : Cx) (s : Sx), (∀ Wx, Cg T k gl cl n Wx X s → ∀ ex, chkG k s tg ex = true → PG X ex (tG T tg))) {Wx : WX} {X : Cx} {s : Sx} (C : Cg T k gl cl n Wx X s) {b : Bool} {ex : Expr} (h : chk k (.lc2 vs elt tg it tg1 it1) s b ex = true) :
    ∃ e t i t1 i1 scope own p, Lc2P T k gl cl Wx X vs elt tg it tg1 it1 ex e t i t1 i1 scope own p := by
  have h' : (match asLc ex with
    | some (e, [⟨t, i, [], 0⟩, ⟨t1, i1, [], 0⟩], scope, _) => blkC k.N s.sc scope (vs.filterMap fun v => (k.N[v]?).map fun x => (x, v)) && decide ((vs.filterMap fun v => (k.N[v]?).map fun x => (x, v)).map (·.2) = vs) && decide (∀ j ∈ tg.slots, j ∈ vs) && decide (∀ j ∈ tg1.slots, j ∈ vs) && noSet i && noSet i1 && !it1.isOwnl && chkG k (inner s scope) tg t && chki k it s t i && chkG k (inner s scope) tg1 t1 && chki k it1 (inner s scope) t1 i1 && chk k elt (inner s scope) false e
    | _ => false) = true := h
  split at h'
  · rename_i e t i t1 i1 scope p q
    simp only [Bool.and_eq_true, decide_eq_true_eq, Bool.not_eq_true'] at h'
    obtain ⟨⟨⟨⟨⟨⟨⟨⟨⟨⟨⟨h1, h2⟩, h3⟩, h4⟩, h5⟩, h6⟩, h7⟩, h8⟩, h9⟩, h10⟩, h11⟩, h12⟩ := h'
    refine ⟨e, t, i, t1, i1, scope, _, p, ⟨asLc_eq q, h2, ?_, (ii Wx X s C _ _ h9).1, fun s' H Ca cl' fp => ig _ _ _ _ (C.in_ scope s' H Ca cl' fp) _ h8, fun s' H Ca cl' fp => (io _ _ _ (C.in_ scope s' H Ca cl' fp)).2 _ rfl,
      fun s' H Ca cl' fp => (ii1 _ _ _ (C.in_ scope s' H Ca cl' fp) _ _ h11).2 h7, fun s' H Ca cl' fp => ig _ _ _ _ (C.in_ scope s' H Ca cl' fp) _ h10, fun s' H Ca cl' fp => (ie _ _ _ (C.in_ scope s' H Ca cl' fp)).1 _ h12, h3, h4, h5, h6⟩⟩
    rw [C.N, C.sc]
    exact blkOk_by h1
  · cases h'
theorem snd_lc2 {vs : List Nat} {elt : E} {tg tg1 : Tg} {it it1 : It} (ie : SndE T k gl cl n elt) (ii : SndI T k gl cl n it) (ii1 : SndI T k gl cl n it1) (io : SndEo T k gl cl n .none)
    (ig : ∀ (tg : Tg) (X : Cx) (s : Sx), (∀ Wx, Cg T k gl cl n Wx X s → ∀ ex, chkG k s tg ex = true → PG X ex (tG T tg))) : SndE T k gl cl n (.lc2 vs elt tg it tg1 it1) := fun Wx X s C => both fun b ex h => by
  obtain ⟨e, t, i, t1, i1, scope, own, p, P⟩ := lc2_parts ie ii ii1 io ig C h
  rw [P.ex_]
  refine ⟨?_, rfl⟩
  have := x_lc2 (pos := p) C.calm C.nd_ P.hi P.ok P.hg P.ht P.hi1 P.hg1 P.he (by rw [P.own_]; exact P.w) (by rw [P.own_]; exact P.w1) (folded P.s) (fun env => folded P.s1)
  rw [P.own_] at this
  exact this
/-- .. of a dict comprehension -/
structure DcP (T : Tb) (k : Ck) (gl : Nat → W) (cl : Call) (Wx : WX) (X : Cx) (vs : List Nat) (ka va : E) (tg : Tg) (it : It) (ifs : Eo) (ex ek ev t i : Expr) (cs : List Expr) (scope : Scope) (own : List (Str × Nat)) (p : Pos) : Prop where
  ex_ : ex = .DictComp ek ev [⟨t, i, cs, 0⟩] scope p
  own_ : own.map (·.2) = vs
  ok : BlkOk X.N X.env.scope scope own
  hi : PI X t i (tJ T Wx (evI cl gl it))
  hg : AtBlk X scope fun Y => PG Y t (tG T tg)
  ht : AtBlk X scope fun Y => PTs Y cs (tBo T W0 (evT cl gl ifs))
  hk : AtBlk X scope fun Y => PE Y ek (tE T W0 (evE cl gl ka))
  hv : AtBlk X scope fun Y => PE Y ev (tE T W0 (evE cl gl va))
  w : ∀ j ∈ tg.slots, j ∈ vs
  s : noSet i = true
theorem dc_parts {o : Bool} {vs : List Nat} {ka va : E} {tg : Tg} {it : It} {ifs : Eo} (ik : SndE T k gl cl n ka) (iv : SndE T k gl cl n va) (ii : SndI T k gl cl n it) (io : SndEo T k gl cl n ifs)
    (ig : ∀ (tg : Tg) (X : Cx) (s : Sx), (∀ Wx, Cg T k gl cl n Wx X s → ∀ ex, chkG k s tg ex = true → PG X ex (tG T tg))) {Wx : WX} {X : Cx} {s : Sx} (C : Cg T k gl cl n Wx X s) {b : Bool} {ex : Expr} (h : chk k (.dc o vs ka va tg it ifs) s b ex = true) :
    ∃ ek ev t i cs scope own p, DcP T k gl cl Wx X vs ka va tg it ifs ex ek ev t i cs scope own p := by
  have h' : (match asDc ex with
    | some (ek, ev, [⟨t, i, cs, 0⟩], scope, _) => blkC k.N s.sc scope (vs.filterMap fun v => (k.N[v]?).map fun x => (x, v)) && decide ((vs.filterMap fun v => (k.N[v]?).map fun x => (x, v)).map (·.2) = vs) && decide (∀ j ∈ tg.slots, j ∈ vs) && noSet i && chkG k (inner s scope) tg t && chki k it s t i && chkt k ifs (inner s scope) cs && chk k ka (inner s scope) false ek && chk k va (inner s scope) false ev
    | _ => false) = true := h
  split at h'
  · rename_i ek ev t i cs scope p q
    simp only [Bool.and_eq_true, decide_eq_true_eq] at h'
    obtain ⟨⟨⟨⟨⟨⟨⟨⟨h1, h2⟩, h3⟩, h4⟩, h5⟩, h6⟩, h7⟩, h8⟩, h9⟩ := h'
    refine ⟨ek, ev, t, i, cs, scope, _, p, ⟨asDc_eq q, h2, ?_, (ii Wx X s C _ _ h6).1, fun s' H Ca cl' fp => ig _ _ _ _ (C.in_ scope s' H Ca cl' fp) _ h5, fun s' H Ca cl' fp => (io _ _ _ (C.in_ scope s' H Ca cl' fp)).2 _ h7,
      fun s' H Ca cl' fp => (ik _ _ _ (C.in_ scope s' H Ca cl' fp)).1 _ h8, fun s' H Ca cl' fp => (iv _ _ _ (C.in_ scope s' H Ca cl' fp)).1 _ h9, h3, h4⟩⟩
    rw [C.N, C.sc]
    exact blkOk_by h1
  · cases h'
theorem snd_dc {o : Bool} {vs : List Nat} {ka va : E} {tg : Tg} {it : It} {ifs : Eo} (ik : SndE T k gl cl n ka) (iv : SndE T k gl cl n va) (ii : SndI T k gl cl n it) (io : SndEo T k gl cl n ifs)
    (ig : ∀ (tg : Tg) (X : Cx) (s : Sx), (∀ Wx, Cg T k gl cl n Wx X s → ∀ ex, chkG k s tg ex = true → PG X ex (tG T tg))) : SndE T k gl cl n (.dc o vs ka va tg it ifs) := fun Wx X s C => both fun b ex h => by
  obtain ⟨ek, ev, t, i, cs, scope, own, p, P⟩ := dc_parts ik iv ii io ig C h
  rw [P.ex_]
  refine ⟨?_, rfl⟩
  have := x_dc (b := o) (pos := p) C.u C.calm C.nd_ P.hi P.ok P.hg P.ht P.hk P.hv (by rw [P.own_]; exact P.w) (folded P.s)
  rw [P.own_] at this
  exact this
mutual
theorem snd_G : ∀ (tg : Tg) (X : Cx) (s : Sx) (Wx : WX), Cg T k gl cl n Wx X s → ∀ ex, chkG k s tg ex = true → PG X ex (tG T tg)
  | .nm i, X, s, Wx, C, ex, h => by
    have h' : (match asName ex with
      | some (x, _) => tgOk k s i x
      | none => false) = true := h
    cases q : asName ex with
    | none => rw [q] at h'; cases h'
    | some z =>
      obtain ⟨x, p⟩ := z
      rw [q] at h'
      have h2 : (decide (k.N[i]? = some x) && s.tg x) = true := h'
      rw [Bool.and_eq_true, decide_eq_true_eq] at h2
      obtain ⟨a, b⟩ := C.tg x h2.2
      rw [asName_eq q]
      exact g_nm C.nd_ (by rw [C.N]; exact h2.1) a b
  | .tp ts, X, s, Wx, C, ex, h => by
    have h' : (match asTup ex with
      | some (es, _, _) => es.all plain && chkGs k s ts es
      | none => false) = true := h
    cases q : asTup ex with
    | none => rw [q] at h'; cases h'
    | some z =>
      obtain ⟨es, m, p⟩ := z
      rw [q] at h'
      simp only [Bool.and_eq_true] at h'
      obtain ⟨a, b⟩ := snd_Gs ts X s Wx C es h'.2
      rw [asTup_eq q]
      dsimp only
      have hl : ∀ es : List Expr, es.all plain = true → (assignEach es X.env).length = es.length ∧ (assignEach es X.env).findIdx? (·.1) = none := by
        intro es
        induction es with
        | nil => intro _; exact ⟨rfl, rfl⟩
        | cons e r ih =>
          intro hp
          rw [List.all_cons, Bool.and_eq_true] at hp
          obtain ⟨i1, i2⟩ := ih hp.2
          have e0 : assignEach (e :: r) X.env = (false, assign e X.env) :: assignEach r X.env := by
            cases e <;> first | rfl | cases hp.1
          rw [e0]
          refine ⟨by rw [List.length_cons, List.length_cons, i1], ?_⟩
          rw [List.findIdx?_cons]
          simp [i2]
      exact g_tp C.K C.calm a ((hl es h'.1).1.trans b) (fun xs e e' q => setTgs_len ts xs e e' q) (hl es h'.1).2
theorem snd_Gs : ∀ (tg : Tgs) (X : Cx) (s : Sx) (Wx : WX), Cg T k gl cl n Wx X s → ∀ es, chkGs k s tg es = true → PGs X es (tGs T tg) ∧ es.length = tg.len
  | .nil, X, s, Wx, C, es, h => by
    cases es with
    | nil => exact ⟨g_nil, rfl⟩
    | cons _ _ => cases h
  | .cons a r, X, s, Wx, C, es, h => by
    cases es with
    | nil => cases h
    | cons e es =>
      have h' : (chkG k s a e && chkGs k s r es) = true := h
      rw [Bool.and_eq_true] at h'
      obtain ⟨b1, b2⟩ := snd_Gs r X s Wx C es h'.2
      have hp : (assignEach (e :: es) X.env).map (·.2) = assign e X.env :: (assignEach es X.env).map (·.2) := by
        cases e with
        | Starred a9 p9 =>
          cases a with
          | nm i => exact absurd (show false = true from h'.1) Bool.false_ne_true
          | tp ts => exact absurd (show false = true from h'.1) Bool.false_ne_true
        | _ => rfl
      exact ⟨g_cons (snd_G a X s Wx C e h'.1) b1 hp, by rw [List.length_cons, b2] <;> rfl⟩
end
end
end Mn
/-! Mn23: all checked expressions tell their text. -/
namespace Mn
open PySem PySem.Spec PyProof.Rows L2
section
variable {T : Tb} {k : Ck} {gl : Nat → W} {cl : Call} {n : Nat}
theorem sndi_seq {a : E} (ia : SndE T k gl cl n a) : SndI0 T k gl cl n (.seq a) := fun Wx X s C tg i h => i_seq C.K ((ia Wx X s C).1 _ h)
theorem sndi_ownl {m : Nat} : SndI T k gl cl n (.ownl m) := fun Wx X s C tg i h => by
  have h' : (match asName i with | some (x, _) => visOk k s m x | none => false) = true := h
  cases q : asName i with
  | none => rw [q] at h'; cases h'
  | some z =>
    obtain ⟨x, p⟩ := z
    rw [q] at h'
    obtain ⟨a, b, c, d⟩ := C.vis_ h'
    rw [asName_eq q]
    exact ⟨j_ownl C.K a b c d, fun z => nomatch z⟩
theorem sndi_rng {a c : E} (ia : SndE T k gl cl n a) (ic : SndE T k gl cl n c) : SndI0 T k gl cl n (.rng a c) := fun Wx X s C tg i h => by
  have h' : (match asCal i with
    | some (x, as, [], _) => (match asName x with
      | some (z, _) => z == ("range" : Str) && bnOk k s "range" && (match as with
        | [y] => (match (generalizing := false) a with
          | .kI 0 => plain y && chk k c s false y
          | _ => false)
        | [y, y'] => plain y && plain y' && chk k a s false y && chk k c s false y'
        | _ => false)
      | none => false)
    | _ => false) = true := h
  split at h'
  · rename_i x as p q
    cases q2 : asName x with
    | none => rw [q2] at h'; cases h'
    | some z =>
      obtain ⟨z, p2⟩ := z
      rw [q2] at h'
      simp only [Bool.and_eq_true, beq_iff_eq] at h'
      obtain ⟨⟨rfl, h2⟩, h3⟩ := h'
      obtain ⟨b1, b2, b3⟩ := C.bn_ h2
      rw [asCal_eq q]
      dsimp only
      rw [asName_eq q2]
      match as, h3 with
      | [y], h3 =>
        dsimp only at h3
        split at h3
        · simp only [Bool.and_eq_true] at h3
          exact i_rng1 b1 b2 ((ic Wx X s C).1 _ h3.2) (star_cons h3.1)
        · cases h3
      | [y, y'], h3 =>
        simp only [Bool.and_eq_true] at h3
        obtain ⟨⟨⟨h4, h5⟩, h6⟩, h7⟩ := h3
        exact i_rng2 b1 b2 ((ia Wx X s C).1 _ h6) ((ic Wx X s C).1 _ h7) (star_cons h4) (star_cons h5)
      | [], h3 => cases h3
      | _ :: _ :: _ :: _, h3 => cases h3
  · cases h'
theorem sndi_enum {a : E} (ia : SndE T k gl cl n a) : SndI0 T k gl cl n (.enum a) := fun Wx X s C tg i h => by
  have h' : ((asTup tg).isSome && (match asCal i with
    | some (x, [y], [], _) => (match asName x with
      | some (z, _) => z == ("enumerate" : Str) && bnOk k s "enumerate" && plain y && chk k a s false y
      | none => false)
    | _ => false)) = true := h
  rw [Bool.and_eq_true] at h'
  obtain ⟨ht, h'⟩ := h'
  cases qt : asTup tg with
  | none => rw [qt] at ht; cases ht
  | some tt =>
    rw [asTup_eq qt]
    split at h'
    · rename_i x y p q
      cases q2 : asName x with
      | none => rw [q2] at h'; cases h'
      | some z =>
        obtain ⟨z, p2⟩ := z
        rw [q2] at h'
        simp only [Bool.and_eq_true, beq_iff_eq] at h'
        obtain ⟨⟨⟨rfl, h2⟩, h3⟩, h4⟩ := h'
        obtain ⟨b1, b2, b3⟩ := C.bn_ h2
        rw [asCal_eq q]
        dsimp only
        rw [asName_eq q2]
        exact i_enum C.K b1 b2 ((ia Wx X s C).1 _ h4) (star_cons h3)
    · cases h'
theorem sndi_zip {st : Bool} {a c : E} (ia : SndE T k gl cl n a) (ic : SndE T k gl cl n c) : SndI0 T k gl cl n (.zip st a c) := fun Wx X s C tg i h => by
  have h' : (st && (asTup tg).isSome && (match asCal i with
    | some (x, [y, y'], [⟨some w, v, _⟩], _) => (match asName x with
      | some (z, _) => z == ("zip" : Str) && w == ("strict" : Str) && (match asCon v with | some (.bool true, _, _) => true | _ => false) && bnOk k s "zip" && plain y && plain y' && chk k a s false y && chk k c s false y'
      | none => false)
    | _ => false)) = true := h
  rw [Bool.and_eq_true, Bool.and_eq_true] at h'
  obtain ⟨⟨rfl, ht⟩, h'⟩ := h'
  cases qt : asTup tg with
  | none => rw [qt] at ht; cases ht
  | some tt =>
    rw [asTup_eq qt]
    split at h'
    · rename_i x y y' w v kp p q
      cases q2 : asName x with
      | none => rw [q2] at h'; cases h'
      | some z =>
        obtain ⟨z, p2⟩ := z
        rw [q2] at h'
        simp only [Bool.and_eq_true, beq_iff_eq] at h'
        obtain ⟨⟨⟨⟨⟨⟨⟨rfl, rfl⟩, h2⟩, h3⟩, h4⟩, h5⟩, h6⟩, h7⟩ := h'
        split at h2
        · rename_i q3
          obtain ⟨b1, b2, b3⟩ := C.bn_ h3
          rw [asCal_eq q]
          dsimp only
          rw [asName_eq q2, asCon_eq q3]
          have hp : [y, y'].all plain = true := by simp [h4, h5]
          refine i_zip C.K b1 b2 ((ia Wx X s C).1 _ h6) ((ic Wx X s C).1 _ h7) (star_cons h4) (star_cons h5) ?_ (star_any hp)
          rw [star_cons h4]
          rfl
        · cases h2
    · cases h'
theorem sndes_nil : SndEs T k gl cl n .nil := fun Wx X s C es h => by
  cases es with
  | nil => exact ⟨.nil, rfl⟩
  | cons _ _ => cases h
theorem sndes_cons {a : E} {r : Es} (ia : SndE T k gl cl n a) (ir : SndEs T k gl cl n r) : SndEs T k gl cl n (.cons a r) := fun Wx X s C es h => by
  cases es with
  | nil => cases h
  | cons e es =>
    have h' : (plain e && chk k a s false e && chks k r s es) = true := h
    simp only [Bool.and_eq_true] at h'
    obtain ⟨b1, b2⟩ := ir Wx X s C es h'.2
    exact ⟨.cons h'.1.1 ((ia Wx X s C).1 _ h'.1.2) b1, by rw [List.length_cons, b2] <;> rfl⟩
theorem sndes_star {a : E} {r : Es} (ia : SndE T k gl cl n a) (ir : SndEs T k gl cl n r) : SndEs T k gl cl n (.star a r) := fun Wx X s C es h => by
  cases es with
  | nil => cases h
  | cons z es =>
    cases z with
    | Starred e p =>
      have h' : (chk k a s false e && chks k r s es) = true := h
      rw [Bool.and_eq_true] at h'
      obtain ⟨b1, b2⟩ := ir Wx X s C es h'.2
      exact ⟨.star ((ia Wx X s C).1 _ h'.1) b1, by rw [List.length_cons, b2] <;> rfl⟩
    | _ => cases h
theorem sndeo_none : SndEo T k gl cl n .none := fun Wx X s C => by
  refine ⟨fun o h => ?_, fun cs h => ?_⟩
  · cases o with
    | none => exact o_none
    | some _ => cases h
  · cases cs with
    | nil => exact ts_nil
    | cons _ _ => cases h
theorem sndeo_some {a : E} (ia : SndE T k gl cl n a) : SndEo T k gl cl n (.some a) := fun Wx X s C => by
  refine ⟨fun o h => ?_, fun cs h => ?_⟩
  · cases o with
    | none => cases h
    | some e => exact o_some ((ia Wx X s C).1 _ h)
  · match cs, h with
    | [c], h => exact ts_one ((ia Wx X s C).2 _ h)
    | [], h => cases h
    | _ :: _ :: _, h => cases h
mutual
theorem sndE : ∀ t : E, SndE T k gl cl n t
  | .var i => snd_var
  | .own i => snd_own
  | .kI i => snd_kI
  | .kS z => snd_kS
  | .kB z => snd_kB
  | .kN => snd_kN
  | .glb i => snd_glb
  | .tup es => snd_tup (sndEs es)
  | .lst es => snd_lst (sndEs es)
  | .dct0 t => snd_dct0
  | .dctK zs es => snd_dctK (sndEs es)
  | .glo a => snd_glo (sndE a)
  | .bin op a b => snd_bin (sndE a) (sndE b)
  | .neg a => snd_neg (sndE a)
  | .cmp op a b => snd_cmp (sndE a) (sndE b)
  | .cmo neg a b => snd_cmo (sndE a) (sndE b)
  | .chn o1 o2 a b c => snd_chn (sndE a) (sndE b) (sndE c)
  | .not a => snd_not (sndE a)
  | .and a b => snd_and (sndE a) (sndE b)
  | .or a b => snd_or (sndE a) (sndE b)
  | .ite c a b => snd_ite (sndE c) (sndE a) (sndE b)
  | .ix a i => snd_ix (sndE a) (sndE i)
  | .dix a i => snd_dix (sndE a) (sndE i)
  | .sl a lo hi => snd_sl (sndE a) (sndEo lo) (sndEo hi)
  | .rev a => snd_rev (sndE a)
  | .fld a c m => snd_fld (sndE a)
  | .call f es => snd_call (sndEs es)
  | .mth a c f es => snd_mth (sndE a) (sndEs es)
  | .mk f es => snd_mk (sndEs es)
  | .b1 m a => snd_b1 (sndE a)
  | .b2 m a b => snd_b2 (sndE a) (sndE b)
  | .isi a t => snd_isi (sndE a)
  | .mm m t es => snd_mm (sndE t) (sndEs es)
  | .lc vs elt tg it ifs => snd_lc (sndE elt) (sndI it) (sndEo ifs) (fun X s Wx C ex h => snd_G tg X s Wx C ex h)
  | .lc2 vs elt tg it tg1 it1 => snd_lc2 (sndE elt) (sndI it) (sndI it1) sndeo_none (fun tg X s Wx C ex h => snd_G tg X s Wx C ex h)
  | .d1 t a c => snd_d1 (sndE a) (sndE c)
  | .dc o vs ka va tg it ifs => snd_dc (sndE ka) (sndE va) (sndI it) (sndEo ifs) (fun tg X s Wx C ex h => snd_G tg X s Wx C ex h)
  | .prop a c f => snd_prop (sndE a)
  | .lenI a c f => snd_lenI (sndE a)
termination_by structural t => t
theorem sndEs : ∀ t : Es, SndEs T k gl cl n t
  | .nil => sndes_nil
  | .cons a r => sndes_cons (sndE a) (sndEs r)
  | .star a r => sndes_star (sndE a) (sndEs r)
termination_by structural t => t
theorem sndEo : ∀ t : Eo, SndEo T k gl cl n t
  | .none => sndeo_none
  | .some a => sndeo_some (sndE a)
termination_by structural t => t
theorem sndI : ∀ t : It, SndI T k gl cl n t
  | .seq a => (sndi_seq (sndE a)).of
  | .ownl m => sndi_ownl
  | .rng a c => (sndi_rng (sndE a) (sndE c)).of
  | .enum a => (sndi_enum (sndE a)).of
  | .zip st a c => (sndi_zip (sndE a) (sndE c)).of
  | .items _ => fun Wx X s C tg i h => by cases h
  | .vals _ => fun Wx X s C tg i h => by cases h
  | .keys _ => fun Wx X s C tg i h => by cases h
termination_by structural t => t
end
end
end Mn
/-! Mn24: the check of statements; checked ones tell their text. -/
namespace Mn
open PySem PySem.Spec PyProof.Rows L2
def noComp : Expr → Bool
  | .ListComp _ _ _ _ => false
  | .SetComp _ _ _ _ => false
  | .DictComp _ _ _ _ _ => false
  | _ => true
theorem swaps_no {v : Expr} {t : Option Expr} {l : Nat} {env : Env} (h : noComp v = true) : swapsWith v t l env = pure false := by
  cases v <;> first | rfl | cases h
theorem swaps_sub {v o i : Expr} {p : Pos} {l : Nat} {env : Env} : swapsWith v (some (.Subscript o i p)) l env = pure false := by
  cases v <;> rfl
theorem swaps_att {v o : Expr} {f : Str} {p : Pos} {l : Nat} {env : Env} : swapsWith v (some (.Attribute o f p)) l env = pure false := by
  cases v <;> rfl
/-- what a term that does nothing gives -/
def gives {α : Type} : Sem α → Option α
  | .pure a => some a
  | _ => none
theorem gives_pure {α : Type} {t : Sem α} {a : α} (h : gives t = some a) : t = pure a := by
  cases t <;> cases h
  rfl
/-- whether the stores of a pair are turned about: the model is asked, with an environment of which the scope alone is known -/
def swOf (sc : Scope) (targets : List Expr) (value : Expr) : Option (Option (List Str)) := gives (swappedStores targets value { (default : Env) with scope := sc })
theorem swOf_eq {targets : List Expr} {value : Expr} {env : Env} {r : Option (List Str)} (h : swOf env.scope targets value = some r) : swappedStores targets value env = pure r := gives_pure h
end Mn
/-! Mn25: the check of statements. -/
namespace Mn
open PySem PySem.Spec PyProof.Rows L2
def swB (sc : Scope) (x : Str) (px : Pos) : Expr → Option Bool
  | .ListComp e g s p => some ((if sc.kind.isAnnotationScope then ScopeKind.function else sc.kind) == .function && sc.names.lookup x == some .local && px.line == p.line && !(s.names.any fun (n, k) => n == x && (k == .local || k == .cell)))
  | .SetComp _ _ _ _ => none
  | .DictComp _ _ g s p => some ((if sc.kind.isAnnotationScope then ScopeKind.function else sc.kind) == .function && sc.names.lookup x == some .local && px.line == p.line && !(s.names.any fun (n, k) => n == x && (k == .local || k == .cell)))
  | _ => some false
theorem swB_eq {x : Str} {px : Pos} {v : Expr} {b : Bool} {l : Nat} {env : Env} (h : swB env.scope x px v = some b) : swapsWith v (some (.Name x px)) l env = pure b := by
  cases v <;> first | (cases h; rfl) | cases h
def isLc : E → Bool
  | .lc _ _ _ _ _ => true
  | .glo (.lc _ _ _ _ _) => true
  | .lc2 _ _ _ _ _ _ => true
  | .dc _ _ _ _ _ _ _ => true
  | _ => false
def chkA (k : Ck) (s : Sx) (i : Nat) (e : E) (t v : Expr) : Bool := match asName t with
  | some (x, px) => tgOk k s i x && chk k e s false v && (match swB s.sc x px v with
    | some false => true
    | some true => decide (s.sc.names.lookup x = some .local) && isLc e
    | none => false)
  | none => false
def asAsg : Stmt → Option (Expr × Expr × Pos)
  | .Assign [t] v p => some (t, v, p)
  | _ => none
def asExS : Stmt → Option (Expr × Pos)
  | .Expr v p => some (v, p)
  | _ => none
def asRet : Stmt → Option (Option Expr × Pos)
  | .Return v p => some (v, p)
  | _ => none
def asIfS : Stmt → Option (Expr × List Stmt × List Stmt × Pos)
  | .If c a b p => some (c, a, b, p)
  | _ => none
def asFor : Stmt → Option (Expr × Expr × List Stmt × Pos)
  | .For t i b [] p => some (t, i, b, p)
  | _ => none
def asWhl : Stmt → Option (Expr × List Stmt × Pos)
  | .While c b [] p => some (c, b, p)
  | _ => none
theorem asAsg_eq {st : Stmt} {x} (h : asAsg st = some x) : st = .Assign [x.1] x.2.1 x.2.2 := by
  unfold asAsg at h
  split at h
  · cases h; rfl
  · cases h
theorem asExS_eq {st : Stmt} {x} (h : asExS st = some x) : st = .Expr x.1 x.2 := by
  unfold asExS at h
  split at h
  · cases h; rfl
  · cases h
theorem asRet_eq {st : Stmt} {x} (h : asRet st = some x) : st = .Return x.1 x.2 := by
  unfold asRet at h
  split at h
  · cases h; rfl
  · cases h
theorem asIfS_eq {st : Stmt} {x} (h : asIfS st = some x) : st = .If x.1 x.2.1 x.2.2.1 x.2.2.2 := by
  unfold asIfS at h
  split at h
  · cases h; rfl
  · cases h
theorem asFor_eq {st : Stmt} {x} (h : asFor st = some x) : st = .For x.1 x.2.1 x.2.2.1 [] x.2.2.2 := by
  unfold asFor at h
  split at h
  · cases h; rfl
  · cases h
theorem asWhl_eq {st : Stmt} {x} (h : asWhl st = some x) : st = .While x.1 x.2.1 [] x.2.2 := by
  unfold asWhl at h
  split at h
  · cases h; rfl
  · cases h
mutual
def chkC (k : Ck) (s : Sx) : C → Stmt → Bool
  | .asg tg e, st => (match asAsg st with
    | some (t, v, p) => (match tg with
      | .nm i => chkA k s i e t v
      | tg => noComp v && (asTup t).isSome && decide (swOf s.sc [t] v = some none) && chkG k s tg t && chk k e s false v)
    | none => false)
  | .asgO i e, st => (match asAsg st with
    | some (t, v, p) => chkA k s i e t v
    | none => false)
  | .par i j oj a b, st => (match asAsg st with
    | some (t, v, p) => (match asTup t, asTup v with
      | some ([x, y], _, _), some ([ea, eb], _, _) => (match asName x, asName y with
        | some (nx, _), some (ny, _) => decide (swOf s.sc [t] v = some (some [nx, ny])) && decide (k.N[i]? = some nx) && decide (k.N[j]? = some ny) && decide (i ≠ j) && decide (s.sc.names.lookup nx = some .local) && decide (s.sc.names.lookup ny = some .local) && plain ea && plain eb && chk k a s false ea && chk k b s false eb
        | _, _ => false)
      | _, _ => false)
    | none => false)
  | .parF i j oj a b, st => (match asAsg st with
    | some (t, v, p) => (match asTup t, asTup v with
      | some ([x, y], _, _), some ([ea, eb], _, _) => (match asName x, asName y with
        | some (nx, _), some (ny, _) => decide (swOf s.sc [t] v = some (some [nx, ny])) && decide (k.N[i]? = some nx) && decide (k.N[j]? = some ny) && decide (i ≠ j) && decide (s.sc.names.lookup nx = some .local) && decide (s.sc.names.lookup ny = some .local) && plain ea && plain eb && chk k a s false ea && chk k b s false eb
        | _, _ => false)
      | _, _ => false)
    | none => false)
  | .aug _ _ _, _ => false
  | .seto t i v, st => (match asAsg st with
    | some (x, ev, p) => (match asSub x with
      | some (o, ei, _) => (asSlc ei).isNone && chk k t s false o && chk k i s false ei && chk k v s false ev
      | none => false)
    | none => false)
  | .setf t c m v, st => (match asAsg st with
    | some (x, ev, p) => (match asAtt x with
      | some (o, f, _) => decide ((k.fl c)[m]? = some f) && chk k t s false o && chk k v s false ev
      | none => false)
    | none => false)
  | .ex a, st => (match asExS st with
    | some (v, _) => noComp v && chk k a s false v
    | none => false)
  | .ret a, st => (match asRet st with
    | some (some v, _) => chk k a s false v
    | _ => false)
  | .retO i, st => (match asRet st with
    | some (some v, _) => (match asName v with
      | some (x, _) => visOk k s i x
      | none => false)
    | _ => false)
  | .retN, st => (match asRet st with
    | some (none, _) => true
    | _ => false)
  | .if_ c a b, st => (match asIfS st with
    | some (ec, sa, sb, _) => chk k c s true ec && chkCs k s a sa && chkCs k s b sb
    | none => false)
  | .for_ tg it body, st => (match asFor st with
    | some (t, i, b, _) => noSet i && !it.isOwnl && chkG k s tg t && chki k it s t i && chkCs k s body b
    | none => false)
  | .while_ c body, st => (match asWhl st with
    | some (ec, b, _) => chk k c s true ec && chkCs k s body b
    | none => false)
  | .pas, st => (match st with | .Pass _ => true | _ => false)
  | .brk, st => (match st with | .Break _ => true | _ => false)
  | .cnt, st => (match st with | .Continue _ => true | _ => false)
  | .frz _, _ => false
  | .rais _ _, _ => true
termination_by structural t => t
def chkCs (k : Ck) (s : Sx) : Cs → List Stmt → Bool
  | .nil, sts => sts.isEmpty
  | .cons a r, sts => (match a with
    | .frz _ => chkCs k s r sts
    | a => (match sts with
      | st :: sts => chkC k s a st && chkCs k s r sts
      | [] => false))
termination_by structural t => t
end
section
variable {T : Tb} {k : Ck} {gl : Nat → W} {cl : Call} {n : Nat} {N : Nat}
/-- where statements stand -/
structure Cb (T : Tb) (k : Ck) (gl : Nat → W) (cl : Call) (n : Nat) (Wx : WX) (X : Cx) (s : Sx) : Prop where
  c : Cg T k gl cl n Wx X s
  po : PassesOwn (model X.prog X.w) X.A X.env X.xe
theorem tGlo {Wx : WX} {ra : Ev} {σ : L2.St} {H : Hp} {Q : VK} (h : tE T Wx (evGlo ra) σ H Q) : tE T Wx ra σ H Q := by
  obtain ⟨Rs, m, G, e, g, s, h⟩ := h
  refine ⟨Rs, m, G, e, g, s, OkR.thn h fun w m1 e1 G1 H1 l1 g1 s1 h1 v1 dw => ?_⟩
  cases w with
  | f o =>
    obtain ⟨p, rfl, hF, hR, hr, hO, dn⟩ := dw
    obtain ⟨g2, s2, d2⟩ := glo_ok g1 s1 hF hR hr hO dn
    exact h1 _ H1 Wd.glo_le g2 s2 _ d2
  | _ => exact h1.elim
theorem set_of {Wx : WX} {X : Cx} {i : Nat} {ra : Ev} {st : Stmt} {te : TE} (h : PS X st (tAsg te (gName i))) (imp : ∀ σ H Q, tE T Wx ra σ H Q → te σ H Q) :
    PS X st (tS T Wx fun e G => (ra e G).toD.st fun x e G => (match setTg (.nm i) x e with | some e => .nx e G | none => .no)) := by
  refine PS.imp h fun D σ H ⟨Rs, m, G, e, g, s, h⟩ => imp σ H _ (tE_of_tD ⟨Rs, m, G, e, g, s, OkR.st h fun x m1 e1 G1 H1 l1 g1 s1 h1 v dn => ?_⟩)
  cases hc : canSet e1 i with
  | false =>
    have e0 : setTg (.nm i) x e1 = none := by show (if canSet e1 i = true then some (e1.set i (.d x)) else none) = none; rw [hc]; rfl
    rw [e0] at h1
    exact h1.elim
  | true =>
    have e0 : setTg (.nm i) x e1 = some (e1.set i (.d x)) := by show (if canSet e1 i = true then some (e1.set i (.d x)) else none) = _; rw [hc]; rfl
    rw [e0] at h1
    exact h1 _ m1 H1 (Wd.le.refl _) g1 (s1.setD hc dn)
theorem setO_of {Wx : WX} {X : Cx} {i : Nat} {ra : Ev} {st : Stmt} {te : TE} (h : PS X st (tAsg te (gName i))) (imp : ∀ σ H Q, tE T Wx ra σ H Q → te σ H Q) :
    PS X st (tS T Wx fun e G => (ra e G).st fun w e G => (match ownW w with | some s => stD i s e G | none => .no)) := by
  refine PS.imp h fun D σ H ⟨Rs, m, G, e, g, s, h⟩ => imp σ H _ ⟨Rs, m, G, e, g, s, OkR.st h fun w m1 e1 G1 H1 l1 g1 s1 h1 v dw => ?_⟩
  cases w with
  | f o =>
    have h1' : OkS T Rs Wx m1 (if canSet e1 i then .nx (e1.set i (.own o)) G1 else .no) D := h1
    cases hc : canSet e1 i with
    | false => rw [hc] at h1'; exact h1'.elim
    | true =>
      rw [hc] at h1'
      exact h1' _ m1 H1 (Wd.le.refl _) g1 (s1.setO hc dw)
  | _ => exact h1.elim
theorem lc_set {Wx : WX} {X : Cx} {s : Sx} {vs : List Nat} {elt : E} {tg : Tg} {it : It} {ifs : Eo} {i : Nat} {y : Str} {py sp : Pos} {v : Expr} (C : Cg T k gl cl n Wx X s) (h : chk k (.lc vs elt tg it ifs) s false v = true) (hy : X.N[i]? = some y) (hl : X.env.scope.names.lookup y = some .local)
    (hsw : swapsWith v (some (.Name y py)) sp.line X.env = pure true) : ∃ te, PS X (.Assign [.Name y py] v sp) (tAsg te (gName i)) ∧ ∀ σ H Q, tE T Wx (evE cl gl (.lc vs elt tg it ifs)) σ H Q → te σ H Q := by
  have h' : (match asLc v with
    | some (e, [⟨t, i, cs, 0⟩], scope, _) => blkC k.N s.sc scope (vs.filterMap fun v => (k.N[v]?).map fun x => (x, v)) && decide ((vs.filterMap fun v => (k.N[v]?).map fun x => (x, v)).map (·.2) = vs) && decide (∀ j ∈ tg.slots, j ∈ vs) && noSet i && chkG k (inner s scope) tg t && chki k it s t i && chkt k ifs (inner s scope) cs && chk k elt (inner s scope) false e
    | _ => false) = true := h
  split at h'
  · rename_i e t it' cs scope p q
    simp only [Bool.and_eq_true, decide_eq_true_eq] at h'
    obtain ⟨⟨⟨⟨⟨⟨⟨h1, h2⟩, h3⟩, h4⟩, h5⟩, h6⟩, h7⟩, h8⟩ := h'
    have ev := asLc_eq q
    dsimp only at ev
    subst ev
    have ok : BlkOk X.N X.env.scope scope (vs.filterMap fun v => (k.N[v]?).map fun x => (x, v)) := by
      rw [C.N, C.sc]
      exact blkOk_by h1
    refine ⟨_, ps_setLc C.calm C.nd_ hy hl hsw (sndI it Wx X s C _ _ h6).1 ok (fun s' H Ca cl' fp => snd_G tg _ _ _ (C.in_ scope s' H Ca cl' fp) _ h5) (fun s' H Ca cl' fp => (sndEo ifs _ _ _ (C.in_ scope s' H Ca cl' fp)).2 _ h7) (fun s' H Ca cl' fp => PE.imp ((sndE elt _ _ _ (C.in_ scope s' H Ca cl' fp)).1 _ h8) fun _ _ _ => tE_of_tD) (folded h4), fun σ H Q hq => ?_⟩
    have hw : ∀ i ∈ tg.slots, i ∈ (vs.filterMap fun v => (k.N[v]?).map fun x => (x, v)).map (·.2) := by rw [h2]; exact h3
    refine tLc_of hw ?_
    rw [h2]
    exact hq
  · cases h'
theorem lc2_set {Wx : WX} {X : Cx} {s : Sx} {vs : List Nat} {elt : E} {tg tg1 : Tg} {it it1 : It} {i : Nat} {y : Str} {py sp : Pos} {v : Expr} (C : Cg T k gl cl n Wx X s) (h : chk k (.lc2 vs elt tg it tg1 it1) s false v = true) (hy : X.N[i]? = some y) (hl : X.env.scope.names.lookup y = some .local)
    (hsw : swapsWith v (some (.Name y py)) sp.line X.env = pure true) : ∃ te, PS X (.Assign [.Name y py] v sp) (tAsg te (gName i)) ∧ ∀ σ H Q, tE T Wx (evE cl gl (.lc2 vs elt tg it tg1 it1)) σ H Q → te σ H Q := by
  obtain ⟨e, t, i0, t1, i1, scope, own, p, P⟩ := lc2_parts (sndE elt) (sndI it) (sndI it1) sndeo_none (fun tg X s Wx C ex h => snd_G tg X s Wx C ex h) C h
  rw [P.ex_] at hsw ⊢
  refine ⟨_, ps_setLc2 (vs1 := tg1.slots) C.calm C.nd_ hy hl hsw P.hi P.ok (by rw [P.own_]; exact P.w1) P.hg P.ht P.hi1 P.hg1 P.ht (fun s' H Ca cl' fp => PE.imp (P.he s' H Ca cl' fp) fun _ _ _ => tE_of_tD) (folded P.s) (fun env => folded P.s1), fun σ H Q hq => ?_⟩
  refine tLc2_of (by rw [P.own_]; exact P.w) (fun _ z => z) (by rw [P.own_]; exact P.w1) ?_
  rw [P.own_]
  exact hq
theorem dc_set {Wx : WX} {X : Cx} {s : Sx} {o : Bool} {vs : List Nat} {ka va : E} {tg : Tg} {it : It} {ifs : Eo} {i : Nat} {y : Str} {py sp : Pos} {v : Expr} (C : Cg T k gl cl n Wx X s) (h : chk k (.dc o vs ka va tg it ifs) s false v = true) (hy : X.N[i]? = some y) (hl : X.env.scope.names.lookup y = some .local)
    (hsw : swapsWith v (some (.Name y py)) sp.line X.env = pure true) : ∃ te, PS X (.Assign [.Name y py] v sp) (tAsg te (gName i)) ∧ ∀ σ H Q, tE T Wx (evE cl gl (.dc o vs ka va tg it ifs)) σ H Q → te σ H Q := by
  obtain ⟨ek, ev, t, i0, cs, scope, own, p, P⟩ := dc_parts (sndE ka) (sndE va) (sndI it) (sndEo ifs) (fun tg X s Wx C ex h => snd_G tg X s Wx C ex h) C h
  rw [P.ex_] at hsw ⊢
  refine ⟨_, ps_dcP (t := o) C.u C.calm C.nd_ hy hl hsw P.hi P.ok P.hg P.ht (fun s' H Ca cl' fp => PE.imp (P.hk s' H Ca cl' fp) fun _ _ _ => tE_of_tD) (fun s' H Ca cl' fp => PE.imp (P.hv s' H Ca cl' fp) fun _ _ _ => tE_of_tD) (folded P.s), fun σ H Q hq => ?_⟩
  refine tDc_of (by rw [P.own_]; exact P.w) ?_
  rw [P.own_]
  exact hq
theorem asg_any {Wx : WX} {X : Cx} {s : Sx} {i : Nat} {e : E} {t v : Expr} {p : Pos} (C : Cg T k gl cl n Wx X s) (h : chkA k s i e t v = true) : ∃ te, PS X (.Assign [t] v p) (tAsg te (gName i)) ∧ ∀ σ H Q, tE T Wx (evE cl gl e) σ H Q → te σ H Q := by
  unfold chkA at h
  cases q : asName t with
  | none => rw [q] at h; cases h
  | some z =>
    obtain ⟨x, px⟩ := z
    rw [q] at h
    simp only [Bool.and_eq_true] at h
    obtain ⟨⟨h1, h2⟩, h3⟩ := h
    have h4 : (decide (k.N[i]? = some x) && s.tg x) = true := h1
    rw [Bool.and_eq_true, decide_eq_true_eq] at h4
    obtain ⟨a, b⟩ := C.tg x h4.2
    have hN : X.N[i]? = some x := by rw [C.N]; exact h4.1
    rw [asName_eq q]
    dsimp only
    cases q2 : swB s.sc x px v with
    | none => rw [q2] at h3; cases h3
    | some bb =>
      rw [q2] at h3
      rw [← C.sc] at q2
      have hsw := swB_eq (l := p.line) q2
      cases bb with
      | false => exact ⟨_, ps_set C.nd_ hN a ((sndE e Wx X s C).1 _ h2) hsw b, fun _ _ _ h => h⟩
      | true =>
        simp only [Bool.and_eq_true, decide_eq_true_eq] at h3
        have hl : X.env.scope.names.lookup x = some .local := by rw [C.sc]; exact h3.1
        have h5 := h3.2
        cases e with
        | lc vs elt tg it ifs => exact lc_set C h2 hN hl hsw
        | lc2 vs elt tg it tg1 it1 => exact lc2_set C h2 hN hl hsw
        | dc o vs ka va tg it ifs => exact dc_set C h2 hN hl hsw
        | glo e2 =>
          cases e2 with
          | lc vs elt tg it ifs =>
            have h6 : (!false && chk k (.lc vs elt tg it ifs) s false v) = true := h2
            obtain ⟨te, x1, x2⟩ := lc_set C (by simpa using h6) hN hl hsw
            exact ⟨te, x1, fun σ H Q hq => x2 σ H Q (tGlo hq)⟩
          | _ => cases h5
        | _ => cases h5
end
end Mn
/-! Mn26: checked statements tell their text. -/
namespace Mn
open PySem PySem.Spec PyProof.Rows L2
section
variable {T : Tb} {k : Ck} {gl : Nat → W} {cl : Call} {n : Nat} {N : Nat}
theorem DenW.setD {Rs : Hp} {m : Wd} {e : List S} {σ : L2.St} {H : Hp} {i : Nat} {x : D} {v u : V} {o : O} (h : DenW T Rs m e σ H (.f o) u) : DenW T Rs m (e.set i (.d x)) (σ.set i (some v)) H (.f o) u := by
  obtain ⟨p, rfl, h1, h2, h3, h4, h5⟩ := h
  refine ⟨p, rfl, h1, h2, h3, fun j q hq z => ?_, h5⟩
  have ne : i ≠ j := fun y => by
    subst y
    by_cases hl : i < e.length
    · rw [List.getElem?_set_self hl] at hq; cases hq
    · rw [List.getElem?_eq_none (by rw [List.length_set]; omega)] at hq; cases hq
  rw [List.getElem?_set_ne ne] at hq z
  exact h4 j q hq z
theorem s_parO {Wx : WX} {X : Cx} {i j : Nat} {x y : Str} {a b : Expr} {px py pt pos : Pos} {kt k2 pt2} {ra rb : Ev} (hc : X.calm = true) (hN : X.N.Nodup) (hi : X.N[i]? = some x) (hj : X.N[j]? = some y) (hij : i ≠ j)
    (hx : X.env.scope.names.lookup x = some .local) (hy : X.env.scope.names.lookup y = some .local) (ha : PE X a (tE T Wx ra)) (hb : PE X b (tE T Wx rb)) (h1 : starEach [a, b] X.env = (false, eval a X.env) :: starEach [b] X.env) (h2 : starEach [b] X.env = (false, eval b X.env) :: starEach [] X.env)
    (hw : swappedStores [.Tuple [.Name x px, .Name y py] kt pt] (.Tuple [a, b] k2 pt2) X.env = pure (some [x, y]))
    (hs : swapsWithSole [.Tuple [.Name x px, .Name y py] kt pt] (.Tuple [a, b] k2 pt2) pos.line X.env = pure false) :
    PS X (.Assign [.Tuple [.Name x px, .Name y py] kt pt] (.Tuple [a, b] k2 pt2) pos) (tS T Wx fun e G => (ra e G).toD.st fun x e G => (rb e G).st fun w e G => (match ownW w with
      | some z => if canSet e i && canSet (e.set i (.d x)) j then .nx ((e.set i (.d x)).set j z) G else .no
      | none => .no)) := by
  refine PS.imp (ps_par hc hN hi hj hij hx hy (pa_cons (PE.imp ha fun _ _ _ => tE_of_tD) (pa_cons hb pa_nil h2) h1) hw hs) fun D σ H ⟨Rs, m, G, e, g, s, h⟩ => ⟨Rs, m, G, e, g, s, OkR.st h fun x m1 e1 G1 H1 l1 g1 s1 h1 v dn => ⟨Rs, m1, G1, e1, g1, s1, OkR.st h1 fun w m2 e2 G2 H2 l2 g2 s2 h2 u dw => ?_⟩⟩
  refine ⟨v, u, rfl, ?_⟩
  cases w with
  | f o =>
    have h2' : OkS T Rs Wx m2 (if canSet e2 i && canSet (e2.set i (.d x)) j then .nx ((e2.set i (.d x)).set j (.own o)) G2 else .no) D := h2
    cases q : (canSet e2 i && canSet (e2.set i (.d x)) j) with
    | false => rw [q] at h2'; exact h2'.elim
    | true =>
      rw [q] at h2'
      obtain ⟨c1, c2⟩ := Bool.and_eq_true_iff.mp q
      exact h2' _ m2 H2 (Wd.le.refl _) g2 ((s2.setD c1 (Den.mono l2 x v dn)).setO c2 (DenW.setD dw))
  | _ => exact h2.elim
/-- the wish holds with more objects set aside -/
theorem OkR.stR {α : Type} {Rs Rs' : Hp} {Wx : WX} {m : Wd} {σ : L2.St} {r : R α} {f : α → List S → List O → RS} {D : Ends} {k : α → Wd → List S → List O → Hp → Prop} (le : ∀ p o, Rs p = some o → Rs' p = some o) (h : OkS T Rs Wx m (r.st f) D)
    (q : ∀ a m' e' G' H', m.le m' → RlG T Rs' m' G' H' → RlS T Rs' m' e' σ H' → OkS T Rs Wx m' (f a e' G') D → k a m' e' G' H') : OkR T Rs' Wx m σ r k := by
  cases r with
  | ok a e G => exact fun m2 H2 l2 g s => q a m2 e G H2 l2 g s (OkS.le h l2)
  | ex x e G => exact fun c d m2 H2 l2 g s dx => h c d σ m2 H2 l2 (g.less le) ⟨s.len, s.d, fun i o z => by
    obtain ⟨p, h1, h2, h3, h4, h5⟩ := s.o i o z
    exact ⟨p, h1, h2, none_of le h3, h4, h5⟩, s.an, s.oi⟩ dx
  | no => exact h
theorem RlS.lessR {Rs Rs' : Hp} {m : Wd} {e : List S} {σ : L2.St} {H : Hp} (le : ∀ p o, Rs p = some o → Rs' p = some o) (s : RlS T Rs' m e σ H) : RlS T Rs m e σ H := ⟨s.len, s.d, fun i o z => by
    obtain ⟨p, h1, h2, h3, h4, h5⟩ := s.o i o z
    exact ⟨p, h1, h2, none_of le h3, h4, h5⟩, s.an, s.oi⟩
/-- a new object is set aside while more is reckoned -/
def keepHp (Rs H : Hp) (p : Addr) : Hp := fun q => if q = p then H p else Rs q
theorem keep_on {Rs : Hp} {m : Wd} {G : List O} {e : List S} {σ : L2.St} {H : Hp} {o : O} {p : Addr} (g : RlG T Rs m G H) (s : RlS T Rs m e σ H) (h1 : m.F p = none) (h2 : Rs p = none) (h3 : p ∉ m.r) (h4 : ∀ (i : Nat) (q : O), e[i]? = some (.own q) → σ[i]? ≠ some (some (.ref p))) (h5 : DenO T m H false o p) :
    RlG T (keepHp Rs H p) m G H ∧ RlS T (keepHp Rs H p) m e σ H ∧ ∀ q u, Rs q = some u → keepHp Rs H p q = some u := by
  refine ⟨⟨g.fz, fun q u z => ?_, g.gl, g.gi, g.g⟩, ⟨s.len, s.d, fun i u z => ?_, s.an, s.oi⟩, fun q u z => ?_⟩
  · unfold keepHp at z
    by_cases y : q = p
    · rw [if_pos y] at z
      rw [y]
      exact ⟨z, h1, h3, fun xs w => h5.ntup xs (by rw [z, w])⟩
    · rw [if_neg y] at z
      exact g.rs q u z
  · obtain ⟨a, a1, a2, a3, a4, a5⟩ := s.o i u z
    refine ⟨a, a1, a2, ?_, a4, a5⟩
    have ne : a ≠ p := fun y => h4 i u z (by rw [a1, y])
    unfold keepHp
    rw [if_neg ne]
    exact a3
  · have ne : q ≠ p := fun y => by rw [y, h2] at z; cases z
    unfold keepHp
    rw [if_neg ne]
    exact z
/-- .. and taken up again -/
theorem keep_off {Rs : Hp} {m m' : Wd} {G : List O} {e : List S} {σ : L2.St} {H H' : Hp} {o : O} {p : Addr} (l : m.le m') (g : RlG T (keepHp Rs H p) m' G H') (s : RlS T (keepHp Rs H p) m' e σ H') (h2 : Rs p = none) (h5 : DenO T m H false o p) :
    DenW T Rs m' e σ H' (.f o) (.ref p) := by
  cases hp : H p with
  | none => exact absurd hp h5.there
  | some u =>
    have kp : keepHp Rs H p p = some u := by unfold keepHp; rw [if_pos rfl, hp]
    obtain ⟨a1, a2, a3, a4⟩ := g.rs p u kp
    refine ⟨p, rfl, a2, h2, a3, fun i q hq z => ?_, (DenO.mono l (fun _ _ z => z) o p h5).at (by rw [a1, hp])⟩
    obtain ⟨a, b1, b2, b3, b4, b5⟩ := s.o i q hq
    rw [z] at b1
    cases b1
    rw [kp] at b3
    cases b3
theorem DenW.setW {Rs : Hp} {m : Wd} {e : List S} {σ : L2.St} {H : Hp} {i : Nat} {o z : O} {p : Addr} {u : V} (h : DenW T Rs m e σ H (.f z) u) (hu : u ≠ .ref p) (hl : i < σ.length) : DenW T Rs m (e.set i (.own o)) (σ.set i (some (.ref p))) H (.f z) u := by
  obtain ⟨q, rfl, h1, h2, h3, h4, h5⟩ := h
  refine ⟨q, rfl, h1, h2, h3, fun j y hq w => ?_, h5⟩
  by_cases ne : i = j
  · subst ne
    rw [List.getElem?_set_self hl] at w
    cases w
    exact hu rfl
  · rw [List.getElem?_set_ne ne] at hq w
    exact h4 j y hq w
theorem s_parF {Wx : WX} {X : Cx} {i j : Nat} {oj : Bool} {x y : Str} {a b : Expr} {px py pt pos : Pos} {kt k2 pt2} {ra rb : Ev} (hc : X.calm = true) (hN : X.N.Nodup) (hi : X.N[i]? = some x) (hj : X.N[j]? = some y) (hij : i ≠ j)
    (hx : X.env.scope.names.lookup x = some .local) (hy : X.env.scope.names.lookup y = some .local) (ha : PE X a (tE T Wx ra)) (hb : PE X b (tE T Wx rb)) (h1 : starEach [a, b] X.env = (false, eval a X.env) :: starEach [b] X.env) (h2 : starEach [b] X.env = (false, eval b X.env) :: starEach [] X.env)
    (hw : swappedStores [.Tuple [.Name x px, .Name y py] kt pt] (.Tuple [a, b] k2 pt2) X.env = pure (some [x, y])) (hs : swapsWithSole [.Tuple [.Name x px, .Name y py] kt pt] (.Tuple [a, b] k2 pt2) pos.line X.env = pure false) :
    PS X (.Assign [.Tuple [.Name x px, .Name y py] kt pt] (.Tuple [a, b] k2 pt2) pos) (tS T Wx fun e G => (ra e G).st fun w e G => (match w with
    | .f o => if oj then (rb e G).st fun v e G => (match v with
        | .f z => if canSet e i && canSet (e.set i (.own o)) j then .nx ((e.set i (.own o)).set j (.own z)) G else .no
        | _ => .no)
      else (rb e G).toD.st fun y e G => if canSet e i && canSet (e.set i (.own o)) j then .nx ((e.set i (.own o)).set j (.d y)) G else .no
    | _ => .no)) := by
  refine PS.imp (ps_par hc hN hi hj hij hx hy (pa_cons ha (pa_cons hb pa_nil h2) h1) hw hs) fun D σ H ⟨Rs, m, G, e, g, s, h⟩ => ⟨Rs, m, G, e, g, s, OkR.st h fun w m1 e1 G1 H1 l1 g1 s1 h1 v dw => ?_⟩
  cases w with
  | f o =>
    obtain ⟨p, rfl, f1, f2, f3, f4, f5⟩ := dw
    obtain ⟨gk, sk, le⟩ := keep_on g1 s1 f1 f2 f3 f4 f5
    cases oj with
    | true =>
      have h1' : OkS T Rs Wx m1 ((rb e1 G1).st fun v e G => (match v with
        | .f z => if canSet e i && canSet (e.set i (.own o)) j then .nx ((e.set i (.own o)).set j (.own z)) G else .no
        | _ => .no)) D := h1
      refine ⟨keepHp Rs H1 p, m1, G1, e1, gk, sk, OkR.stR le h1' fun w2 m2 e2 G2 H2 l2 g2 s2 h2 u dw2 => ?_⟩
      refine ⟨.ref p, u, rfl, ?_⟩
      cases w2 with
      | f z =>
        have h2' : OkS T Rs Wx m2 (if canSet e2 i && canSet (e2.set i (.own o)) j then .nx ((e2.set i (.own o)).set j (.own z)) G2 else .no) D := h2
        cases q : (canSet e2 i && canSet (e2.set i (.own o)) j) with
        | false => rw [q] at h2'; exact h2'.elim
        | true =>
          rw [q] at h2'
          obtain ⟨c1, c2⟩ := Bool.and_eq_true_iff.mp q
          have d1 := keep_off l2 g2 s2 f2 f5
          have hu : u ≠ .ref p := fun y => by
            obtain ⟨p2, e2', _, k2, _⟩ := dw2
            rw [y] at e2'
            cases e2'
            unfold keepHp at k2
            rw [if_pos rfl] at k2
            exact f5.there k2
          have dz : DenW T Rs m2 e2 σ H2 (.f z) u := by
            obtain ⟨p2, e2', k1, k2, k3, k4, k5⟩ := dw2
            exact ⟨p2, e2', k1, none_of le k2, k3, k4, k5⟩
          have sb := s2.lessR le
          exact h2' _ m2 H2 (Wd.le.refl _) (g2.less le) ((sb.setO c1 d1).setO c2 (dz.setW hu (by rw [sb.len]; exact canSet_lt c1)))
      | _ => exact h2.elim
    | false =>
      have h1' : OkS T Rs Wx m1 ((rb e1 G1).toD.st fun y e G => if canSet e i && canSet (e.set i (.own o)) j then .nx ((e.set i (.own o)).set j (.d y)) G else .no) D := h1
      refine tE_of_tD (Q := fun u H' => _) ⟨keepHp Rs H1 p, m1, G1, e1, gk, sk, OkR.stR le h1' fun y m2 e2 G2 H2 l2 g2 s2 h2 u dn2 => ?_⟩
      refine ⟨.ref p, u, rfl, ?_⟩
      cases q : (canSet e2 i && canSet (e2.set i (.own o)) j) with
      | false => rw [q] at h2; exact h2.elim
      | true =>
        rw [q] at h2
        obtain ⟨c1, c2⟩ := Bool.and_eq_true_iff.mp q
        have d1 := keep_off l2 g2 s2 f2 f5
        exact h2 _ m2 H2 (Wd.le.refl _) (g2.less le) (((s2.lessR le).setO c1 d1).setD c2 dn2)
  | _ => exact h1.elim
theorem PE.bot {X : Cx} {st : Stmt} {Wx : WX} : PS X st (tS T Wx fun _ _ => .no) := PS.imp ps_never fun D σ H ⟨_, _, _, _, _, _, h⟩ => h
def SndC (T : Tb) (k : Ck) (gl : Nat → W) (cl : Call) (n N : Nat) (t : C) : Prop := ∀ (Wx : WX) (X : Cx) (s : Sx), Cb T k gl cl n Wx X s → ∀ st, chkC k s t st = true → PS X st (tS T Wx (evC cl gl N t))
def SndCs (T : Tb) (k : Ck) (gl : Nat → W) (cl : Call) (n N : Nat) (t : Cs) : Prop := ∀ (Wx : WX) (X : Cx) (s : Sx), Cb T k gl cl n Wx X s → ∀ sts, chkCs k s t sts = true → PSs X sts (tS T Wx (evCs cl gl N t))
theorem sndc_asg {tg : Tg} {e : E} : SndC T k gl cl n N (.asg tg e) := fun Wx X s B st h => by
  have h' : (match asAsg st with
    | some (t, v, p) => (match (generalizing := false) tg with
      | .nm i => chkA k s i e t v
      | tg => noComp v && (asTup t).isSome && decide (swOf s.sc [t] v = some none) && chkG k s tg t && chk k e s false v)
    | none => false) = true := h
  cases q : asAsg st with
  | none => rw [q] at h'; cases h'
  | some z =>
    obtain ⟨t, v, p⟩ := z
    rw [q] at h'
    rw [asAsg_eq q]
    dsimp only at h' ⊢
    cases tg with
    | nm i =>
      obtain ⟨te, h1, h2⟩ := asg_any (p := p) B.c h'
      exact set_of h1 h2
    | tp ts =>
      simp only [Bool.and_eq_true, decide_eq_true_eq] at h'
      obtain ⟨⟨⟨⟨h1, h2⟩, h3⟩, h4⟩, h5⟩ := h'
      have hw : swappedStores [t] v X.env = pure none := swOf_eq (by rw [B.c.sc]; exact h3)
      have ha : (assignEach [t] X.env).map (·.2) = [assign t X.env] := by
        cases qt : asTup t with
        | none => rw [qt] at h2; cases h2
        | some z => rw [asTup_eq qt]; rfl
      exact s_asg ((sndE e Wx X s B.c).1 _ h5) (snd_G (.tp ts) X s Wx B.c t h4) (show swapsWith v (some t) p.line X.env = pure false from swaps_no h1) hw ha
theorem sndc_asgO {i : Nat} {e : E} : SndC T k gl cl n N (.asgO i e) := fun Wx X s B st h => by
  have h' : (match asAsg st with
    | some (t, v, p) => chkA k s i e t v
    | none => false) = true := h
  cases q : asAsg st with
  | none => rw [q] at h'; cases h'
  | some z =>
    obtain ⟨t, v, p⟩ := z
    rw [q] at h'
    rw [asAsg_eq q]
    obtain ⟨te, h1, h2⟩ := asg_any (p := p) B.c h'
    exact setO_of h1 h2
theorem sndc_par {i j : Nat} {oj : Bool} {a b : E} : SndC T k gl cl n N (.par i j oj a b) := fun Wx X s B st h => by
  have h' : (match asAsg st with
    | some (t, v, p) => (match asTup t, asTup v with
      | some ([x, y], _, _), some ([ea, eb], _, _) => (match asName x, asName y with
        | some (nx, _), some (ny, _) => decide (swOf s.sc [t] v = some (some [nx, ny])) && decide (k.N[i]? = some nx) && decide (k.N[j]? = some ny) && decide (i ≠ j) && decide (s.sc.names.lookup nx = some .local) && decide (s.sc.names.lookup ny = some .local) && plain ea && plain eb && chk k a s false ea && chk k b s false eb
        | _, _ => false)
      | _, _ => false)
    | none => false) = true := h
  cases q : asAsg st with
  | none => rw [q] at h'; cases h'
  | some z =>
    obtain ⟨t, v, p⟩ := z
    rw [q] at h'
    rw [asAsg_eq q]
    dsimp only at h' ⊢
    split at h'
    · rename_i x y m1 p1 ea eb m2 p2 q1 q2
      cases q3 : asName x with
      | none => rw [q3] at h'; cases h'
      | some z1 =>
        cases q4 : asName y with
        | none => rw [q3, q4] at h'; cases h'
        | some z2 =>
          obtain ⟨nx, r1⟩ := z1
          obtain ⟨ny, r2⟩ := z2
          rw [q3, q4] at h'
          simp only [Bool.and_eq_true, decide_eq_true_eq] at h'
          obtain ⟨⟨⟨⟨⟨⟨⟨⟨⟨h1, h2⟩, h3⟩, h4⟩, h5⟩, h6⟩, h7⟩, h8⟩, h9⟩, h10⟩ := h'
          have hw : swappedStores [t] v X.env = pure (some [nx, ny]) := swOf_eq (by rw [B.c.sc]; exact h1)
          have e1 := asTup_eq q1
          have e2 := asTup_eq q2
          dsimp only at e1 e2
          rw [asName_eq q3, asName_eq q4] at e1
          subst e1 e2
          have hi : X.N[i]? = some nx := by rw [B.c.N]; exact h2
          have hj : X.N[j]? = some ny := by rw [B.c.N]; exact h3
          have lx : X.env.scope.names.lookup nx = some .local := by rw [B.c.sc]; exact h5
          have ly : X.env.scope.names.lookup ny = some .local := by rw [B.c.sc]; exact h6
          cases oj with
          | true => exact s_parO B.c.calm B.c.nd_ hi hj h4 lx ly ((sndE a Wx X s B.c).1 _ h9) ((sndE b Wx X s B.c).1 _ h10) (star_cons h7) (star_cons h8) hw rfl
          | false => exact s_par B.c.calm B.c.nd_ hi hj h4 lx ly ((sndE a Wx X s B.c).1 _ h9) ((sndE b Wx X s B.c).1 _ h10) (star_cons h7) (star_cons h8) hw rfl
    · cases h'
theorem sndc_parF {i j : Nat} {oj : Bool} {a b : E} : SndC T k gl cl n N (.parF i j oj a b) := fun Wx X s B st h => by
  have h' : (match asAsg st with
    | some (t, v, p) => (match asTup t, asTup v with
      | some ([x, y], _, _), some ([ea, eb], _, _) => (match asName x, asName y with
        | some (nx, _), some (ny, _) => decide (swOf s.sc [t] v = some (some [nx, ny])) && decide (k.N[i]? = some nx) && decide (k.N[j]? = some ny) && decide (i ≠ j) && decide (s.sc.names.lookup nx = some .local) && decide (s.sc.names.lookup ny = some .local) && plain ea && plain eb && chk k a s false ea && chk k b s false eb
        | _, _ => false)
      | _, _ => false)
    | none => false) = true := h
  cases q : asAsg st with
  | none => rw [q] at h'; cases h'
  | some z =>
    obtain ⟨t, v, p⟩ := z
    rw [q] at h'
    rw [asAsg_eq q]
    dsimp only at h' ⊢
    split at h'
    · rename_i x y m1 p1 ea eb m2 p2 q1 q2
      cases q3 : asName x with
      | none => rw [q3] at h'; cases h'
      | some z1 =>
        cases q4 : asName y with
        | none => rw [q3, q4] at h'; cases h'
        | some z2 =>
          obtain ⟨nx, r1⟩ := z1
          obtain ⟨ny, r2⟩ := z2
          rw [q3, q4] at h'
          simp only [Bool.and_eq_true, decide_eq_true_eq] at h'
          obtain ⟨⟨⟨⟨⟨⟨⟨⟨⟨h1, h2⟩, h3⟩, h4⟩, h5⟩, h6⟩, h7⟩, h8⟩, h9⟩, h10⟩ := h'
          have hw : swappedStores [t] v X.env = pure (some [nx, ny]) := swOf_eq (by rw [B.c.sc]; exact h1)
          have e1 := asTup_eq q1
          have e2 := asTup_eq q2
          dsimp only at e1 e2
          rw [asName_eq q3, asName_eq q4] at e1
          subst e1 e2
          have hi : X.N[i]? = some nx := by rw [B.c.N]; exact h2
          have hj : X.N[j]? = some ny := by rw [B.c.N]; exact h3
          have lx : X.env.scope.names.lookup nx = some .local := by rw [B.c.sc]; exact h5
          have ly : X.env.scope.names.lookup ny = some .local := by rw [B.c.sc]; exact h6
          exact s_parF B.c.calm B.c.nd_ hi hj h4 lx ly ((sndE a Wx X s B.c).1 _ h9) ((sndE b Wx X s B.c).1 _ h10) (star_cons h7) (star_cons h8) hw rfl
    · cases h'
theorem sndc_seto {t i v : E} : SndC T k gl cl n N (.seto t i v) := fun Wx X s B st h => by
  have h' : (match asAsg st with
    | some (x, ev, p) => (match asSub x with
      | some (o, ei, _) => (asSlc ei).isNone && chk k t s false o && chk k i s false ei && chk k v s false ev
      | none => false)
    | none => false) = true := h
  cases q : asAsg st with
  | none => rw [q] at h'; cases h'
  | some z =>
    obtain ⟨x, ev, p⟩ := z
    rw [q] at h'
    rw [asAsg_eq q]
    dsimp only at h' ⊢
    cases q2 : asSub x with
    | none => rw [q2] at h'; cases h'
    | some z2 =>
      obtain ⟨o, ei, p2⟩ := z2
      rw [q2] at h'
      simp only [Bool.and_eq_true, Option.isNone_iff_eq_none] at h'
      obtain ⟨⟨⟨h1, h2⟩, h3⟩, h4⟩ := h'
      rw [asSub_eq q2]
      refine s_seto B.c.u ((sndE t Wx X s B.c).1 _ h2) ((sndE i Wx X s B.c).1 _ h3) ((sndE v Wx X s B.c).1 _ h4) ?_ (show swapsWith ev (some (.Subscript o ei p2)) p.line X.env = pure false from swaps_sub) rfl rfl
      intro w
      cases ei <;> first | rfl | cases h1
theorem sndc_setf {t : E} {c m : Nat} {v : E} : SndC T k gl cl n N (.setf t c m v) := fun Wx X s B st h => by
  have h' : (match asAsg st with
    | some (x, ev, p) => (match asAtt x with
      | some (o, f, _) => decide ((k.fl c)[m]? = some f) && chk k t s false o && chk k v s false ev
      | none => false)
    | none => false) = true := h
  cases q : asAsg st with
  | none => rw [q] at h'; cases h'
  | some z =>
    obtain ⟨x, ev, p⟩ := z
    rw [q] at h'
    rw [asAsg_eq q]
    dsimp only at h' ⊢
    cases q2 : asAtt x with
    | none => rw [q2] at h'; cases h'
    | some z2 =>
      obtain ⟨o, f, p2⟩ := z2
      rw [q2] at h'
      simp only [Bool.and_eq_true, decide_eq_true_eq] at h'
      have hf := h'.1.1
      rw [B.c.lk.fl] at hf
      rw [asAtt_eq q2]
      exact s_setf B.c.K (B.c.lk.cls c) hf (B.c.lk.few c) ((sndE t Wx X s B.c).1 _ h'.1.2) ((sndE v Wx X s B.c).1 _ h'.2) swaps_att
theorem sndc_ex {a : E} : SndC T k gl cl n N (.ex a) := fun Wx X s B st h => by
  have h' : (match asExS st with
    | some (v, _) => noComp v && chk k a s false v
    | none => false) = true := h
  cases q : asExS st with
  | none => rw [q] at h'; cases h'
  | some z =>
    rw [q] at h'
    simp only [Bool.and_eq_true] at h'
    rw [asExS_eq q]
    exact s_ex ((sndE a Wx X s B.c).1 _ h'.2) (swaps_no h'.1)
theorem sndc_ret {a : E} : SndC T k gl cl n N (.ret a) := fun Wx X s B st h => by
  have h' : (match asRet st with
    | some (some v, _) => chk k a s false v
    | _ => false) = true := h
  split at h'
  · rename_i q
    rw [asRet_eq q]
    exact s_ret ((sndE a Wx X s B.c).1 _ h')
  · cases h'
theorem sndc_retO {i : Nat} : SndC T k gl cl n N (.retO i) := fun Wx X s B st h => by
  have h' : (match asRet st with
    | some (some v, _) => (match asName v with
      | some (x, _) => visOk k s i x
      | none => false)
    | _ => false) = true := h
  split at h'
  · rename_i v p q
    cases q2 : asName v with
    | none => rw [q2] at h'; cases h'
    | some z =>
      rw [q2] at h'
      rw [asRet_eq q]
      dsimp only
      rw [asName_eq q2]
      obtain ⟨a, b, c, d⟩ := B.c.vis_ h'
      exact s_retO a b c d
  · cases h'
theorem sndc_retN : SndC T k gl cl n N .retN := fun Wx X s B st h => by
  have h' : (match asRet st with
    | some (none, _) => true
    | _ => false) = true := h
  split at h'
  · rename_i q
    rw [asRet_eq q]
    exact s_retN
  · cases h'
theorem sndc_if {c : E} {a b : Cs} (ia : SndCs T k gl cl n N a) (ib : SndCs T k gl cl n N b) : SndC T k gl cl n N (.if_ c a b) := fun Wx X s B st h => by
  have h' : (match asIfS st with
    | some (ec, sa, sb, _) => chk k c s true ec && chkCs k s a sa && chkCs k s b sb
    | none => false) = true := h
  cases q : asIfS st with
  | none => rw [q] at h'; cases h'
  | some z =>
    rw [q] at h'
    simp only [Bool.and_eq_true] at h'
    rw [asIfS_eq q]
    exact s_if ((sndE c Wx X s B.c).2 _ h'.1.1) (ia Wx X s B _ h'.1.2) (ib Wx X s B _ h'.2)
theorem sndc_for {tg : Tg} {it : It} {body : Cs} (ib : SndCs T k gl cl n N body) : SndC T k gl cl n N (.for_ tg it body) := fun Wx X s B st h => by
  have h' : (match asFor st with
    | some (t, i, b, _) => noSet i && !it.isOwnl && chkG k s tg t && chki k it s t i && chkCs k s body b
    | none => false) = true := h
  cases q : asFor st with
  | none => rw [q] at h'; cases h'
  | some z =>
    rw [q] at h'
    simp only [Bool.and_eq_true, Bool.not_eq_true'] at h'
    rw [asFor_eq q]
    exact s_for B.po B.c.calm ((sndI it Wx X s B.c _ _ h'.1.2).2 h'.1.1.1.2) (snd_G tg X s Wx B.c _ h'.1.1.2) (ib Wx X s B _ h'.2) (folded h'.1.1.1.1)
theorem sndc_while {c : E} {body : Cs} (ib : SndCs T k gl cl n N body) : SndC T k gl cl n N (.while_ c body) := fun Wx X s B st h => by
  have h' : (match asWhl st with
    | some (ec, b, _) => chk k c s true ec && chkCs k s body b
    | none => false) = true := h
  cases q : asWhl st with
  | none => rw [q] at h'; cases h'
  | some z =>
    rw [q] at h'
    simp only [Bool.and_eq_true] at h'
    rw [asWhl_eq q]
    exact s_while B.po ((sndE c Wx X s B.c).2 _ h'.1) (ib Wx X s B _ h'.2)
theorem sndc_pas : SndC T k gl cl n N .pas := fun Wx X s B st h => by
  have h' : (match (generalizing := false) st with | .Pass _ => true | _ => false) = true := h
  split at h'
  · exact s_pass
  · cases h'
theorem sndc_brk : SndC T k gl cl n N .brk := fun Wx X s B st h => by
  have h' : (match (generalizing := false) st with | .Break _ => true | _ => false) = true := h
  split at h'
  · exact s_brk
  · cases h'
theorem sndc_cnt : SndC T k gl cl n N .cnt := fun Wx X s B st h => by
  have h' : (match (generalizing := false) st with | .Continue _ => true | _ => false) = true := h
  split at h'
  · exact s_cnt
  · cases h'
theorem sndcs_nil : SndCs T k gl cl n N .nil := fun Wx X s B sts h => by
  cases sts with
  | nil => exact s_nil
  | cons _ _ => cases h
theorem sndcs_cons {a : C} {r : Cs} (ia : SndC T k gl cl n N a) (ir : SndCs T k gl cl n N r) : SndCs T k gl cl n N (.cons a r) := fun Wx X s B sts h => by
  have gen : ∀ st sts', (chkC k s a st && chkCs k s r sts') = true → PSs X (st :: sts') (tS T Wx (evCs cl gl N (.cons a r))) := fun st sts' h => by
    rw [Bool.and_eq_true] at h
    exact s_cons (ia Wx X s B st h.1) (ir Wx X s B sts' h.2)
  cases a with
  | frz i => exact s_frz (ir Wx X s B sts h)
  | _ =>
    cases sts with
    | nil => cases h
    | cons st sts => exact gen st sts h
mutual
theorem sndC : ∀ t : C, SndC T k gl cl n N t
  | .asg tg e => sndc_asg
  | .asgO i e => sndc_asgO
  | .par i j oj a b => sndc_par
  | .parF i j oj a b => sndc_parF
  | .aug _ _ _ => fun Wx X s B st h => (nomatch (show false = true from h))
  | .seto t i v => sndc_seto
  | .setf t c m v => sndc_setf
  | .ex a => sndc_ex
  | .ret a => sndc_ret
  | .retO i => sndc_retO
  | .retN => sndc_retN
  | .if_ c a b => sndc_if (sndCs a) (sndCs b)
  | .for_ tg it body => sndc_for (sndCs body)
  | .while_ c body => sndc_while (sndCs body)
  | .pas => sndc_pas
  | .brk => sndc_brk
  | .cnt => sndc_cnt
  | .frz _ => fun Wx X s B st h => (nomatch (show false = true from h))
  | .rais _ _ => fun Wx X s B st h => PE.bot
termination_by structural t => t
theorem sndCs : ∀ t : Cs, SndCs T k gl cl n N t
  | .nil => sndcs_nil
  | .cons a r => sndcs_cons (sndC a) (sndCs r)
termination_by structural t => t
end
end
end Mn
/-! Mn27: checked defs yield what the evaluator tells. -/
namespace Mn
open PySem PySem.Spec PyProof.Rows L2
def locB (sc : Scope) (x : Str) : Bool := match sc.names.lookup x with
  | some .local => true
  | some .cell => true
  | _ => false
structure DefOk (T : Tb) (ck : Ck) (f : Nat) (m : MF) : Prop where
  np : m.np = ck.np f
  ini : m.ini = ck.ini f
  ex : ∃ (x qual : Str) (pa : Arguments) (bd : List Stmt) (sc : Scope) (fd : FuncData) (ps N : List Str), FunD T.K x qual pa bd sc [] [] (T.fa f) fd ∧ FnScope N ps sc ∧ Binds T.K fd ps [] ∧ N.length = m.ns ∧ ps.length = (match m.ini with | none => m.np | some _ => m.np + 1) ∧
    chkCs { ck with N := N } ⟨sc, locB sc⟩ m.body bd = true
section
variable {T : Tb} {ck : Ck} {gl : Nat → W} {P : Program} {w : World} {mg : Str → Option Value} {base : Heap} {fns : List MF} {N : Nat}
theorem Lk.setN {k : Ck} (h : Lk T mg k gl) (N : List Str) : Lk T mg { k with N := N } gl := ⟨h.bn, h.fn, h.cn, h.mkc, h.gn, h.mt, h.pr, h.fl, h.cls, h.isl, h.few⟩
theorem start_at {N : List Str} {vs : List V} {i : Nat} {v : V} (h : vs[i]? = some v) : (L2.start N vs)[i]? = some (some v) := by
  unfold L2.start
  have hl := (List.getElem?_eq_some_iff.mp h).1
  rw [List.getElem?_append_left (by rw [List.length_map]; exact hl), List.getElem?_map, h]
  rfl
theorem start_len {N : List Str} {vs : List V} (h : vs.length ≤ N.length) : (L2.start N vs).length = N.length := by
  unfold L2.start
  rw [List.length_append, List.length_map, List.length_replicate]
  omega
/-- the slots of a call -/
theorem rls_start {Rs : Hp} {m : Wd} {H : Hp} {ds : List D} {vs : List V} {N : List Str} {ns : Nat} (dl : DenL T m ds vs) (hN : N.length = ns) (hl : vs.length ≤ ns) (ha : m.an = none) : RlS T Rs m (ds.map S.d ++ List.replicate (ns - ds.length) S.un) (L2.start N vs) H where
  len := by
    rw [start_len (by omega), List.length_append, List.length_map, List.length_replicate, dl.length]
    omega
  d := fun i x q => by
    by_cases hi : i < ds.length
    · rw [List.getElem?_append_left (by rw [List.length_map]; exact hi), List.getElem?_map] at q
      cases q2 : ds[i]? with
      | none => rw [q2] at q; cases q
      | some d =>
        rw [q2] at q
        cases q
        obtain ⟨v, h1, h2⟩ := dl.get q2
        exact ⟨v, start_at h1, h2⟩
    · rw [List.getElem?_append_right (by rw [List.length_map]; omega)] at q
      have := List.mem_replicate.mp (List.mem_of_getElem? q)
      cases this.2
  o := fun i x q => by
    by_cases hi : i < ds.length
    · rw [List.getElem?_append_left (by rw [List.length_map]; exact hi), List.getElem?_map] at q
      cases q2 : ds[i]? with
      | none => rw [q2] at q; cases q
      | some d => rw [q2] at q; cases q
    · rw [List.getElem?_append_right (by rw [List.length_map]; omega)] at q
      have := List.mem_replicate.mp (List.mem_of_getElem? q)
      cases this.2
  an := fun p hp => by rw [ha] at hp; cases hp
  oi := fun i j p a b q1 q2 q3 q4 => by
    exfalso
    by_cases hi : i < ds.length
    · rw [List.getElem?_append_left (by rw [List.length_map]; exact hi), List.getElem?_map] at q1
      cases q2 : ds[i]? with
      | none => rw [q2] at q1; cases q1
      | some d => rw [q2] at q1; cases q1
    · rw [List.getElem?_append_right (by rw [List.length_map]; omega)] at q1
      have := List.mem_replicate.mp (List.mem_of_getElem? q1)
      cases this.2
theorem rls_startI {Rs : Hp} {m : Wd} {H : Hp} {ds : List D} {vs : List V} {N : List Str} {ns c : Nat} {x : Addr} (dl : DenL T m ds vs) (hN : N.length = ns) (hl : vs.length + 1 ≤ ns) (ha : m.an = some x) (hF : m.F x = none) (hR : Rs x = none) (hr : x ∉ m.r) {dx : Addr} (hH : H x = some (.ins (T.ca c) dx [])) :
    RlS T Rs m (S.own (.ins c []) :: (ds.map S.d ++ List.replicate (ns - ds.length - 1) S.un)) (L2.start N (.ref x :: vs)) H := by
  have s0 : (L2.start N (V.ref x :: vs))[0]? = some (some (.ref x)) := start_at rfl
  have tl : ∀ (i : Nat) (z : S), (S.own (.ins c []) :: (ds.map S.d ++ List.replicate (ns - ds.length - 1) S.un))[i + 1]? = some z → z = .un ∨ ∃ d, ds[i]? = some d ∧ z = .d d := fun i z q => by
    rw [List.getElem?_cons_succ] at q
    by_cases hi : i < ds.length
    · rw [List.getElem?_append_left (by rw [List.length_map]; exact hi), List.getElem?_map] at q
      cases q2 : ds[i]? with
      | none => rw [q2] at q; cases q
      | some d => rw [q2] at q; cases q; exact .inr ⟨d, rfl, rfl⟩
    · rw [List.getElem?_append_right (by rw [List.length_map]; omega)] at q
      exact .inl (List.mem_replicate.mp (List.mem_of_getElem? q)).2
  refine ⟨?_, fun i y q => ?_, fun i o q => ?_, fun p hp => ?_, fun i j p a b q1 q2 q3 q4 => ?_⟩
  · rw [start_len (by rw [List.length_cons]; omega), List.length_cons, List.length_append, List.length_map, List.length_replicate, dl.length]
    omega
  · cases i with
    | zero => cases q
    | succ i =>
      rcases tl i _ q with z | ⟨d, h1, h2⟩
      · cases z
      · cases h2
        obtain ⟨v, h3, h4⟩ := dl.get h1
        exact ⟨v, start_at (by rw [List.getElem?_cons_succ]; exact h3), h4⟩
  · cases i with
    | zero =>
      cases q
      exact ⟨x, s0, hF, hR, hr, dx, [], by rw [hH]; simp, Nat.zero_le _, rfl⟩
    | succ i =>
      rcases tl i _ q with z | ⟨d, h1, h2⟩
      · cases z
      · cases h2
  · rw [ha] at hp
    cases hp
    exact ⟨s0, c, [], rfl⟩
  · have z1 : i = 0 := by
      cases i with
      | zero => rfl
      | succ i => rcases tl i _ q1 with z | ⟨d, h1, h2⟩ <;> (first | cases z | cases h2)
    have z2 : j = 0 := by
      cases j with
      | zero => rfl
      | succ i => rcases tl i _ q2 with z | ⟨d, h1, h2⟩ <;> (first | cases z | cases h2)
    rw [z1, z2]
theorem cg_body {k : Nat} {cl : Call} {qual : Str} {sc : Scope} {fa : Addr} {cdv : Value} {A : Around} {outer : List Env} {s : Shared} {H : Hp} {E : XK} {Nn : List Str} (lk : Lk T mg ck gl) (fk : FnsOk T ck cl k P w mg base) (nd : Nn.Nodup)
    (hr : Room (k + 1) (A.deeper (envOfC qual sc s.heap.objs.size fa cdv))) :
    Cb T { ck with N := Nn } gl cl k (fun cls d _ H => E cls d H) (cxOf (L2.CX P w) P w T.K mg base Nn qual sc fa cdv A outer s H E) ⟨sc, locB sc⟩ where
  c := {
    K := rfl
    N := rfl
    nd := nd
    u := by
      show (A.deeper (envOfC qual sc s.heap.objs.size fa cdv)).units + 64 < cLine
      have := hr.un
      omega
    calm := rfl
    tk := takes_of rfl rfl rfl rfl
    sc := rfl
    tg := fun x h => by
      have h' : (match sc.names.lookup x with | some .local => true | some .cell => true | _ => false) = true := h
      split at h'
      · exact ⟨.inl (by assumption), .inl rfl⟩
      · exact ⟨.inr (by assumption), .inl rfl⟩
      · cases h'
    lk := lk.setN Nn
    fk := fk
    room := hr }
  po := passes_of rfl
theorem fn_stepW {k f : Nat} {cl : Call} {m : MF} {x qual : Str} {pa : Arguments} {bd : List Stmt} {sc : Scope} {fd : FuncData} {ps Nn : List Str} (lk : Lk T mg ck gl) (fk : FnsOk T ck cl k P w mg base) (hnp : m.np = ck.np f) (hini : m.ini = ck.ini f)
    (F : FunD T.K x qual pa bd sc [] [] (T.fa f) fd) (FS : FnScope Nn ps sc) (hN : Nn.length = m.ns) (hps : ps.length = (match m.ini with | none => m.np | some _ => m.np + 1)) (hch : chkCs { ck with N := Nn } ⟨sc, locB sc⟩ m.body bd = true)
    (cl2 : Call) (hcl : ∀ ds G, cl2 f ds G = if ds.length = m.np then m.out (evCs cl gl N m.body (m.e0 ds) G) else .no) :
    (ck.ini f = none → FnOk P w T.K mg base (L2.CX P w) (k + 2) (T.fa f) fd ps (spF T cl2 f (ck.np f))) ∧ (∀ c, ck.ini f = some c → FnOk P w T.K mg base (L2.CX P w) (k + 2) (T.fa f) fd ps (spI T cl2 f c (ck.np f))) := by
  have hpl : ps.length ≤ Nn.length := by
    have := congrArg List.length FS.pre
    rw [List.length_take] at this
    omega
  refine ⟨fun hi => ?_, fun c hi => ?_⟩
  · rw [hini, hi] at hps
    dsimp only at hps
    refine F.ok (CX := L2.CX P w) FS (fun vs H Q E h => by rw [h.1, ← hnp, hps]) fun cdv A outer s H vs Q E hr h => ?_
    obtain ⟨hl, Rs, m0, G, ds, ha, g, dl, oc⟩ := h
    have B := cg_body (E := E) (H := H) (outer := outer) lk fk FS.nd hr
    refine ⟨_, sndCs (N := N) m.body _ _ _ B _ hch, Rs, m0, G, m.e0 ds, g, ?_, ?_⟩
    · have e0 : m.e0 ds = ds.map .d ++ List.replicate (m.ns - m.np) .un := by
        unfold MF.e0
        rw [hini, hi]
      rw [e0]
      have hdl : m.np = ds.length := by rw [hnp, ← hl, dl.length]
      rw [hdl]
      exact rls_start dl hN (by rw [hl, ← hnp, ← hps, ← hN]; exact hpl) ha
    · rw [hcl, if_pos (by rw [hnp, ← hl, dl.length])] at oc
      unfold MF.out MF.fin at oc
      rw [hini, hi] at oc
      cases q : evCs cl gl N m.body (m.e0 ds) G with
      | nx e' G' =>
        rw [q] at oc
        exact fun σ m' H' l' g' s' => oc .non m' H' l' g' rfl
      | rt w' e' G' =>
        rw [q] at oc
        cases w' with
        | d y => exact fun σ m' H' v l' g' s' dw => oc v m' H' l' g' dw
        | f o =>
          intro σ m' H' v l' g' s' dw
          obtain ⟨p, e1, h1, h2, h3, _, h5⟩ := dw
          exact oc v m' H' l' g' ⟨p, e1, h1, h2, h3, (fun _ _ z => by simp at z), h5⟩
        | b i => exact oc.elim
        | k ds => exact oc.elim
      | ex y e' G' =>
        rw [q] at oc
        exact fun cls d σ m' H' l' g' s' dx => oc cls d m' H' l' g' dx
      | bk e' G' => rw [q] at oc; exact oc.elim
      | ct e' G' => rw [q] at oc; exact oc.elim
      | no => rw [q] at oc; exact oc.elim
  · rw [hini, hi] at hps
    dsimp only at hps
    refine F.ok (CX := L2.CX P w) FS (fun vs H Q E h => by
      obtain ⟨_, _, vs', e1, e2, _⟩ := h
      rw [e1, List.length_cons, e2, ← hnp, hps]) fun cdv A outer s H vs Q E hr h => ?_
    obtain ⟨xa, dx, vs', rfl, hl, hH, Rs, m0, G, ds, ha, g, hR, hF, hr0, dl, oc⟩ := h
    have B := cg_body (E := E) (H := H) (outer := outer) lk fk FS.nd hr
    have sb : m0.sub (m0.withAn (some xa)) := ⟨fun _ _ z => z, fun _ _ z => z⟩
    have hdl : m.np = ds.length := by rw [hnp, ← hl, dl.length]
    refine ⟨_, sndCs (N := N) m.body _ _ _ B _ hch, Rs, m0.withAn (some xa), G, m.e0 ds, g.sub rfl rfl, ?_, ?_⟩
    · have e0 : m.e0 ds = S.own (.ins c []) :: (ds.map .d ++ List.replicate (m.ns - m.np - 1) .un) := by
        unfold MF.e0
        rw [hini, hi]
      rw [e0, hdl]
      exact rls_startI (DenL.subm sb ds vs' dl) hN (by rw [← hN, hl, ← hnp, ← hps]; exact hpl) rfl hF hR hr0 hH
    · rw [hcl, if_pos hdl.symm] at oc
      unfold MF.out MF.fin at oc
      rw [hini, hi] at oc
      -- the end: the object that was made
      have fin : ∀ {e' : List S} {G' : List O}, OkI T Rs m0 xa (match (e'[0]? : Option S) with | some (S.own o) => .ok (.f o) G' | _ => .no) Q E → ∀ σ m' H', (m0.withAn (some xa)).le m' → RlG T Rs m' G' H' → RlS T Rs m' e' σ H' → Q .non H' := fun {e' G'} oc σ m' H' l' g' s' => by
        cases q0 : e'[0]? with
        | none => rw [q0] at oc; exact oc.elim
        | some z =>
          cases z with
          | own o =>
            rw [q0] at oc
            obtain ⟨p, a1, a2, a3, a4, a5⟩ := s'.o 0 o q0
            have han : m'.an = some xa := l'.2
            obtain ⟨b1, _⟩ := s'.an xa han
            rw [b1] at a1
            cases a1
            have l2 : m0.le (m'.withAn none) := ⟨⟨l'.1.1, l'.1.2⟩, ha.symm⟩
            have sb2 : m'.sub (m'.withAn none) := ⟨fun _ _ z => z, fun _ _ z => z⟩
            exact oc (m'.withAn none) H' l2 (g'.sub rfl rfl) ⟨xa, rfl, a2, a3, a4, (fun _ _ z => by simp at z), DenO.subm sb2 (fun _ _ z => z) o xa a5⟩
          | _ => rw [q0] at oc; exact oc.elim
      cases q : evCs cl gl N m.body (m.e0 ds) G with
      | nx e' G' =>
        rw [q] at oc
        exact fun σ m' H' l' g' s' => fin oc σ m' H' l' g' s'
      | rt w' e' G' =>
        rw [q] at oc
        cases w' with
        | d y =>
          cases y with
          | non =>
            intro σ m' H' v l' g' s' dw
            have ev : v = .non := dw
            rw [ev]
            exact fin oc σ m' H' l' g' s'
          | _ => exact oc.elim
        | _ => exact oc.elim
      | ex y e' G' =>
        rw [q] at oc
        intro cls d σ m' H' l' g' s' dx
        have l2 : m0.le (m'.withAn none) := ⟨⟨l'.1.1, l'.1.2⟩, ha.symm⟩
        have sb2 : m'.sub (m'.withAn none) := ⟨fun _ _ z => z, fun _ _ z => z⟩
        exact oc cls d (m'.withAn none) H' l2 (g'.sub rfl rfl) (dx.sub sb2)
      | bk e' G' => rw [q] at oc; exact oc.elim
      | ct e' G' => rw [q] at oc; exact oc.elim
      | no => rw [q] at oc; exact oc.elim
theorem fn_step {k f : Nat} {cl : Call} {m : MF} (lk : Lk T mg ck gl) (fk : FnsOk T ck cl k P w mg base) (hm : DefOk T ck f m) (cl2 : Call) (hcl : ∀ ds G, cl2 f ds G = if ds.length = m.np then m.out (evCs cl gl N m.body (m.e0 ds) G) else .no) :
    ∃ fd ps, Binds T.K fd ps [] ∧ (ck.ini f = none → FnOk P w T.K mg base (L2.CX P w) (k + 2) (T.fa f) fd ps (spF T cl2 f (ck.np f))) ∧ (∀ c, ck.ini f = some c → FnOk P w T.K mg base (L2.CX P w) (k + 2) (T.fa f) fd ps (spI T cl2 f c (ck.np f))) := by
  obtain ⟨x, qual, pa, bd, sc, fd, ps, Nn, F, FS, hb, hN, hps, hch⟩ := hm.ex
  exact ⟨fd, ps, hb, fn_stepW lk fk hm.np hm.ini F FS hN hps hch cl2 hcl⟩
/-- all defs, to every depth of calls -/
theorem fns_ok (lk : Lk T mg ck gl) (hd : ∀ f, f < ck.nf → ∃ m, fns[f]? = some m ∧ DefOk T ck f m) : ∀ n, FnsOk T ck (runF fns gl N n) (2 * n) P w mg base
  | 0 => fun f hf => by
    obtain ⟨m, hm, dm⟩ := hd f hf
    obtain ⟨x, qual, pa, bd, sc, fd, ps, Nn, F, FS, hb, hN, hps, hch⟩ := dm.ex
    refine ⟨fd, ps, hb, fun hi => ⟨fun vs H Q E h => ?_, fun A outer s H args us vs Q E _ _ _ _ h => ?_⟩, fun c hi => ⟨fun vs H Q E h => ?_, fun A outer s H args us vs Q E _ _ _ _ h => ?_⟩⟩
    · obtain ⟨_, Rs, m0, G, ds, _, _, _, oc⟩ := h
      exact oc.elim
    · obtain ⟨_, Rs, m0, G, ds, _, _, _, oc⟩ := h
      exact oc.elim
    · obtain ⟨_, _, _, _, _, _, Rs, m0, G, ds, _, _, _, _, _, _, oc⟩ := h
      exact oc.elim
    · obtain ⟨_, _, _, _, _, _, Rs, m0, G, ds, _, _, _, _, _, _, oc⟩ := h
      exact oc.elim
  | n + 1 => fun f hf => by
    obtain ⟨m, hm, dm⟩ := hd f hf
    refine fn_step (N := N) lk (fns_ok lk hd n) dm _ fun ds G => ?_
    show (match fns[f]? with
      | some m => if ds.length = m.np then m.out (evCs (runF fns gl N n) gl N m.body (m.e0 ds) G) else .no
      | none => .no) = _
    rw [hm]
end
end Mn
/-! Mn34: what the head tells: defs, properties' getters, facts. -/
namespace Mn
open PySem PySem.Spec PyProof.Rows L2
/-- a property of a class; its getter -/
def pA (K : PySem.W.Frag) (C m : Str) : Addr := He.ma K (He.ga K C) m
def gA (K : PySem.W.Frag) (C m : Str) : Addr := match PySem.W.recIn K (pA K C m) "property" with
  | some (.ref g :: _) => g
  | _ => 0
def propB (K : PySem.W.Frag) (C m : Str) : Bool := decide (PySem.W.findIn K (.ref (He.ga K C)) m = some (some (.ref (pA K C m)))) &&
  decide (PySem.W.specialIn K (.ref (pA K C m)) "__get__" = some (some (.builtin "property.__get__"))) && decide (PySem.W.takesIn K (.ref (pA K C m)) = some true) &&
  (match PySem.W.recIn K (pA K C m) "property" with
  | some (.ref _ :: _) => true
  | _ => false)
theorem propB_ok {K : PySem.W.Frag} {C m : Str} (h : propB K C m = true) : PropOf K (He.ga K C) m (pA K C m) (gA K C m) := by
  unfold propB at h
  simp only [Bool.and_eq_true, decide_eq_true_eq] at h
  obtain ⟨⟨⟨h1, h2⟩, h3⟩, h4⟩ := h
  refine ⟨h1, h2, h3, ?_⟩
  unfold gA
  split at h4
  · rename_i g r q
    rw [q]
    exact ⟨r, rfl⟩
  · cases h4
/-- what stands at an address, as a def -/
def fnA (K : PySem.W.Frag) (a : Addr) : He.FnW := match K.lookup a with
  | some ⟨_, _, .func fd, _⟩ => some (fd.name, fd.qualname, fd.params, fd.body, fd.scope, fd.globals, fd.closure, fd.builtins)
  | _ => none
def okA (K : PySem.W.Frag) (a : Addr) (q : Str) : Bool := PySem.W.keepIn K (.ref a) && (match K.lookup a with
  | some ⟨_, _, .func fd, _⟩ => PySem.W.codeIn K fd.code q && (He.dflB K fd.defaults [] && He.kwdB K fd.kwdefaults [])
  | _ => false)
theorem funA {K : PySem.W.Frag} {a : Addr} {d : He.DefD} (e : fnA K a = d.val) (h : okA K a d.qual = true) : ∃ fd, FunD K d.name d.qual d.params d.body d.scope [] [] a fd := by
  unfold okA at h
  rw [Bool.and_eq_true] at h
  obtain ⟨kp, h⟩ := h
  unfold fnA at e
  split at h
  · rename_i oc od fd osl q
    rw [q] at e
    have e2 := Option.some.inj e
    simp only [Prod.mk.injEq] at e2
    obtain ⟨e1, e2, e3, e4, e5, e6, e7, e8⟩ := e2
    simp only [Bool.and_eq_true] at h
    obtain ⟨h1, h2, h3⟩ := h
    cases fd
    dsimp only at e1 e2 e3 e4 e5 e6 e7 e8 h1 h2 h3 q
    subst e1 e2 e3 e4 e5 e6 e7 e8
    exact ⟨_, ⟨oc, od, _, _, _, _, _, _, _, osl, rfl, q, h1, He.dflB_ok h2, He.kwdB_ok h3⟩, kp⟩
  · cases h
/-! ### the Hook -/
/-- what an object leads to; of a code object's own nothing is asked -/
def refsC (o : Obj) : List Addr := match o.cls with
  | .type n => if n == "code" then [] else He.refsD o
  | _ => He.refsD o
def dedA : List Addr → List Addr → List Addr
  | _, [] => []
  | all, a :: r => if all.any (Nat.beq a) then dedA all r else a :: dedA (a :: all) r
/-- the addresses that the module's names reach in n steps -/
def asC (g : Addr → Option Obj) : Nat → List Addr → List Addr → List Addr
  | 0, all, _ => all
  | n + 1, all, front => (fun new => asC g n (all ++ new) new) (dedA all (front.flatMap fun a => match g a with
    | some o => refsC o
    | none => []))
abbrev frC (n : Nat) (g : Addr → Option Obj) : PySem.W.Frag := He.frT g (asC g n [mainGlobals] [mainGlobals])
abbrev AlC : Type := Bool × List He.FnW
/-- a look: facts, and what stands as defs -/
def lookC {α : Type} (ex : PySem.W.Frag → Bool) (ad : PySem.W.Frag → α → Addr) (ds : List α) (K : PySem.W.Frag) : AlC := (ex K, ds.map fun d => fnA K (ad K d))
def hookC {α : Type} (n : Nat) (ex : PySem.W.Frag → Bool) (ad : PySem.W.Frag → α → Addr) (ds : List α) (vs : List He.FnW) : PySem.W.Hook where
  α := AlC
  obs := fun s => lookC ex ad ds (frC n s.heap.get?)
  val := fun _ => (true, vs)
  says := fun _ h => ∃ K : PySem.W.Frag, K.In h ∧ lookC ex ad ds K = (true, vs)
  of := fun w s e => ⟨_, He.frT_in, e⟩
  keeps := fun _ _ _ ⟨K, hK, q⟩ k => ⟨K, PySem.W.Frag.In.keeps hK k, q⟩
theorem lookC_eq {α : Type} {n : Nat} {ex : PySem.W.Frag → Bool} {ad : PySem.W.Frag → α → Addr} {ds : List α} {vs : List He.FnW} {g : Addr → Option Obj} {s : Shared} (h : ∀ a, g a = s.heap.get? a) : lookC ex ad ds (frC n g) = (hookC n ex ad ds vs).obs s := by
  have e : g = s.heap.get? := funext h
  rw [e] <;> rfl
end Mn
/-! Mn29: a law's table of defs, classes, constants; the facts that the head must tell. -/
namespace Mn
open PySem PySem.Spec PyProof.Rows L2
/-- a constant of the module -/
inductive Gc where
  | one (v : He.Dv) | tup (vs : List He.Dv)
def dvD : He.Dv → D
  | .non => .non
  | .bl b => .bl b
  | .int i => .int i
  | .str s => .str s
  | _ => .non
def dvOk : He.Dv → Bool
  | .non => true
  | .bl _ => true
  | .int _ => true
  | .str _ => true
  | _ => false
def Gc.w : Gc → W
  | .one v => .d (dvD v)
  | .tup vs => .k (vs.map dvD)
def Gc.wf : Gc → Bool
  | .one v => dvOk v
  | .tup vs => vs.all dvOk
structure FdX where
  at_ : Str × Option Str
  name : Str
  qual : Str
  st : Stmt
  m : MF
  N : List Str
  ps : List Str
  /-- a property's getter -/
  pr : Bool
def FdX.mn (f : FdX) : Str := f.at_.2.getD ""
/-- where a def stands -/
def FdX.ad (K : PySem.W.Frag) (f : FdX) : Addr := if f.pr then gA K f.at_.1 f.mn else He.fAd K f.at_
def FdX.d (f : FdX) : He.DefD := ⟨f.at_, f.name, f.qual, defArgs f.st, defBody f.st, defScope f.st, [], []⟩
structure Cfg where
  bn : List Str
  cls : List (Str × List Str)
  fd : List FdX
  gn : List (Str × Gc)
def iniStr : Str := "__init__"
namespace Cfg
variable (c : Cfg)
def cl (n : Nat) : Str × List Str := (c.cls[n]?).getD (c.cls.headD ("", []))
def at_ (f : Nat) : Str × Option Str := ((c.fd[f]?).map (·.at_)).getD ("", none)
def T (K : PySem.W.Frag) : Tb where
  K := K
  ca := fun n => He.ga K (c.cl n).1
  fl := fun n => (c.cl n).2
  xa := fun _ => 0
  xf := fun _ => []
  fa := fun f => match c.fd[f]? with | some x => x.ad K | none => 0
def clsNo (x : Str) : Option Nat := c.cls.findIdx? (fun p => p.1 == x)
def iniOf (f : Nat) : Option Nat := match c.fd[f]? with
  | some x => if x.pr then none else (match x.at_ with
    | (C, some m) => if m == iniStr then c.clsNo C else none
    | _ => none)
  | none => none
def fnL : List (Str × Nat) := c.fd.zipIdx.filterMap fun p => if p.1.pr then none else match p.1.at_ with
  | (x, none) => some (x, p.2)
  | _ => none
def cnL : List (Str × Nat) := c.cls.zipIdx.map fun p => (p.1.1, p.2)
def gnL : List (Str × Nat) := c.gn.zipIdx.map fun p => (p.1.1, p.2)
def mtL : List (Nat × Str × Nat) := c.fd.zipIdx.filterMap fun p => if p.1.pr then none else match p.1.at_ with
  | (C, some m) => if m == iniStr then none else (c.clsNo C).map fun k => (k, m, p.2)
  | _ => none
def prL : List (Nat × Str × Nat) := c.fd.zipIdx.filterMap fun p => if p.1.pr then (c.clsNo p.1.at_.1).map fun k => (k, p.1.mn, p.2) else none
def np (f : Nat) : Nat := ((c.fd[f]?).map (·.m.np)).getD 0
def ck : Ck where
  N := []
  bn := c.bn
  fn := c.fnL
  cn := c.cnL
  gn := c.gnL
  mt := c.mtL
  pr := c.prL
  nf := c.fd.length
  np := c.np
  ini := c.iniOf
  fl := fun n => (c.cl n).2
def gl (n : Nat) : W := ((c.gn[n]?).map (·.2.w)).getD (.d .non)
def fns : List MF := c.fd.map (·.m)
def vals : List He.FnW := c.fd.map fun f => f.d.val
/-! what the head looks at -/
def clsB (K : PySem.W.Frag) (p : Str × List Str) : Bool :=
  (He.Fa.glo p.1).ok K && (He.Fa.cls p.1).ok K && p.2.all (fun f => (He.Fa.noat p.1 f).ok K) &&
  decide (PySem.W.findIn K (.ref (He.ga K p.1)) "__class__" = some (some (.builtin "object.__class__"))) &&
  decide (PySem.W.specialIn K (.builtin "object.__class__") "__get__" = some (some (.builtin "getset_descriptor.__get__"))) &&
  decide (PySem.W.takesIn K (.builtin "object.__class__") = some true) &&
  decide (PySem.W.mroIn K (He.ga K p.1) (.type "object") = some true) &&
  tyNames.all (fun n => decide (PySem.W.kitOne K (.type n) (.ref (He.ga K p.1)) = some false) && decide (PySem.W.kitOne K (.ref (He.ga K p.1)) (.type n) = some false))
def fdB (K : PySem.W.Frag) (f : FdX) : Bool := if f.pr then propB K f.at_.1 f.mn else match f.at_ with
  | (x, none) => (He.Fa.glo x).ok K
  | (C, some m) => if m == iniStr then (He.Fa.mkr C).ok K else (He.Fa.meth C m).ok K
def gcB (K : PySem.W.Frag) (p : Str × Gc) : Bool := match p.2 with
  | .one v => (match PySem.W.nsIn K mainGlobals p.1 with
    | some (some u) => He.relB (v.v K) u
    | _ => false)
  | .tup vs => (He.Fa.glo p.1).ok K && He.tupB K p.1 vs
def exB (K : PySem.W.Frag) : Bool := c.bn.all (fun x => (He.Fa.free x).ok K) && c.cls.all (clsB K) && c.fd.all (fdB K) && c.gn.all (gcB K)
/-- all defs stand with their codes -/
def fkB (K : PySem.W.Frag) : Bool := c.fd.all fun f => okA K (f.ad K) f.qual
def exR (K : PySem.W.Frag) : Bool := c.exB K && c.fkB K
/-- what is to be seen without a heap -/
def wf : Bool := !c.cls.isEmpty && c.cls.all (fun p => decide p.2.Nodup && decide (p.2.length < 1000)) && c.gn.all (fun p => p.2.wf) &&
  c.mtL.all (fun q => !((c.cl q.1).2.contains q.2.1)) && c.fd.all (fun f => match f.at_ with | (C, some _) => (c.clsNo C).isSome | _ => true)
end Cfg
theorem zip_mem {α : Type} {l : List α} {n : Nat} {a : α} (h : l[n]? = some a) : (a, n) ∈ l.zipIdx := by
  rw [List.mem_zipIdx_iff_getElem?]
  exact h
theorem mem_zip {α : Type} {l : List α} {p : α × Nat} (h : p ∈ l.zipIdx) : l[p.2]? = some p.1 := by
  obtain ⟨a, n⟩ := p
  rwa [List.mem_zipIdx_iff_getElem?] at h
theorem look_mem {β : Type} : ∀ {l : List (Str × β)} {x : Str} {b : β}, l.lookup x = some b → (x, b) ∈ l
  | [], _, _, h => by simp at h
  | (y, c) :: r, x, b, h => by
    rw [List.lookup_cons] at h
    cases q : x == y with
    | true =>
      rw [q] at h
      cases h
      rw [beq_iff_eq.mp q]
      exact List.mem_cons_self
    | false =>
      rw [q] at h
      exact List.mem_cons_of_mem _ (look_mem h)
theorem dv_den {T : Tb} {m : Wd} {v : He.Dv} (h : dvOk v = true) : Den T m (dvD v) (v.v T.K) := by
  cases v <;> first | rfl | cases h
theorem dvs_den {T : Tb} {m : Wd} : ∀ {vs : List He.Dv}, vs.all dvOk = true → DenL T m (vs.map dvD) (vs.map (He.Dv.v T.K))
  | [], _ => rfl
  | v :: vs, h => by
    rw [List.all_cons, Bool.and_eq_true] at h
    exact ⟨_, _, rfl, dv_den h.1, dvs_den h.2⟩
section
variable {c : Cfg} {K : PySem.W.Frag} {h : Heap} {mg : Str → Option Value}
theorem Cfg.cl_mem (hw : c.wf = true) (n : Nat) : c.cl n ∈ c.cls := by
  unfold Cfg.cl
  cases q : c.cls[n]? with
  | some p => exact List.mem_of_getElem? q
  | none =>
    unfold Cfg.wf at hw
    simp only [Bool.and_eq_true] at hw
    cases k : c.cls with
    | nil => rw [k] at hw; simp at hw
    | cons a r => exact List.mem_cons_self
theorem Cfg.at_of {f : Nat} {x : FdX} (e : c.fd[f]? = some x) : c.at_ f = x.at_ := by
  unfold Cfg.at_
  rw [e] <;> rfl
theorem Cfg.lk (X : K.In h) (G : h.Ns mainGlobals mg) (hx : c.exB K = true) (hk : ∀ f ∈ c.fd, f.pr = false → PySem.W.keepIn K (.ref (He.fAd K f.at_)) = true) (hw : c.wf = true) : Lk (c.T K) mg c.ck c.gl := by
  have hw0 := hw
  unfold Cfg.wf at hw
  unfold Cfg.exB at hx
  simp only [Bool.and_eq_true, List.all_eq_true] at hw hx
  obtain ⟨⟨⟨⟨_, w2⟩, w3⟩, w4⟩, w5⟩ := hw
  obtain ⟨⟨⟨x1, x2⟩, x3⟩, x4⟩ := hx
  have cb : ∀ n, _ := fun n => x2 _ (Cfg.cl_mem hw0 n)
  unfold Cfg.clsB at cb
  simp only [Bool.and_eq_true, List.all_eq_true, decide_eq_true_eq] at cb w2
  have fa_at : ∀ {f : Nat} {x : FdX}, c.fd[f]? = some x → (c.T K).fa f = x.ad K := fun {f x} e => by
    show (match c.fd[f]? with | some x => x.ad K | none => 0) = _
    rw [e]
  have cl_at : ∀ {C : Str} {n : Nat}, c.clsNo C = some n → (c.cl n).1 = C := fun {C n} e => by
    unfold Cfg.clsNo at e
    obtain ⟨hlt, hp, _⟩ := List.findIdx?_eq_some_iff_getElem.mp e
    unfold Cfg.cl
    rw [List.getElem?_eq_getElem hlt]
    exact beq_iff_eq.mp hp
  have pl_ad : ∀ {x : FdX}, x.pr = false → x.ad K = He.fAd K x.at_ := fun {x} e => by
    unfold FdX.ad
    rw [e] <;> rfl
  refine ⟨fun x hx => He.free_ok X G (x1 x hx), fun x f hf => ?_, fun x n hn => ?_, fun f n hf => ?_, fun x n hn => ?_, fun n mn f hm => ?_, fun n mn f hm => ?_, rfl, fun n => ?_, fun n => ?_, fun n => ?_⟩
  · have hm := look_mem hf
    obtain ⟨p, hp, e⟩ := List.mem_filterMap.mp hm
    have hp2 := mem_zip hp
    have hpm : p.1 ∈ c.fd := List.mem_of_getElem? hp2
    cases hpr : p.1.pr with
    | true => rw [hpr] at e; cases e
    | false =>
      rw [hpr, if_neg Bool.false_ne_true] at e
      have hb := x3 _ hpm
      unfold Cfg.fdB at hb
      rw [hpr, if_neg Bool.false_ne_true] at hb
      cases q : p.1.at_ with
      | mk a b =>
        rw [q] at e hb
        cases b with
        | some m => cases e
        | none =>
          cases e
          rw [fa_at hp2, pl_ad hpr]
          refine ⟨?_, hk _ hpm hpr⟩
          rw [q]
          exact He.glo_ok X G hb
  · have hm := look_mem hn
    obtain ⟨p, hp, e⟩ := List.mem_map.mp hm
    cases e
    have hp2 := mem_zip hp
    have e2 : c.cl p.2 = p.1 := by
      unfold Cfg.cl
      rw [hp2] <;> rfl
    show mg p.1.1 = some (.ref (He.ga K (c.cl p.2).1))
    rw [e2]
    have := (cb p.2).1.1.1.1.1.1.1
    rw [e2] at this
    exact He.glo_ok X G this
  · have hf' : (match c.fd[f]? with
      | some x => if x.pr then none else (match x.at_ with
        | (C, some m) => if m == iniStr then c.clsNo C else none
        | _ => none)
      | none => none) = some n := hf
    cases hx : c.fd[f]? with
    | none => rw [hx] at hf'; cases hf'
    | some x =>
      rw [hx] at hf'
      dsimp only at hf'
      have hb := x3 _ (List.mem_of_getElem? hx)
      unfold Cfg.fdB at hb
      cases hpr : x.pr with
      | true => rw [hpr] at hf'; cases hf'
      | false =>
        rw [hpr, if_neg Bool.false_ne_true] at hf' hb
        cases q : x.at_ with
        | mk C b =>
          rw [q] at hf' hb
          cases b with
          | none => cases hf'
          | some m =>
            dsimp only at hf' hb
            cases qm : m == iniStr with
            | false => rw [qm] at hf'; simp at hf'
            | true =>
              rw [qm] at hf' hb
              simp only [if_true] at hf' hb
              show Mk K (He.ga K (c.cl n).1) ((c.T K).fa f)
              rw [cl_at hf', fa_at hx, pl_ad hpr, q, beq_iff_eq.mp qm]
              exact He.mkr_ok hb
  · have hm := look_mem hn
    obtain ⟨p, hp, e⟩ := List.mem_map.mp hm
    cases e
    have hp2 := mem_zip hp
    have hpm := List.mem_of_getElem? hp2
    have hg : c.gl p.2 = p.1.2.w := by
      unfold Cfg.gl
      rw [hp2] <;> rfl
    have hb := x4 _ hpm
    have hwf := w3 _ hpm
    unfold Cfg.gcB at hb
    rw [hg]
    cases q : p.1.2 with
    | one v =>
      rw [q] at hb hwf
      dsimp only at hb
      cases q2 : PySem.W.nsIn K mainGlobals p.1.1 with
      | none => rw [q2] at hb; cases hb
      | some o =>
        rw [q2] at hb
        cases o with
        | none => cases hb
        | some u => exact ⟨v.v K, u, PySem.W.mg_of X G q2, He.relB_ok hb, fun Rs m e σ H => dv_den (T := c.T K) hwf⟩
    | tup vs =>
      rw [q] at hb hwf
      dsimp only at hb
      rw [Bool.and_eq_true] at hb
      exact ⟨.ref (He.ga K p.1.1), _, He.glo_ok X G hb.1, rfl, fun Rs m e σ H => ⟨_, _, rfl, He.tupB_ok hb.2 _, dvs_den (T := c.T K) hwf⟩⟩
  · obtain ⟨p, hp, e⟩ := List.mem_filterMap.mp hm
    have hp2 := mem_zip hp
    have hpm : p.1 ∈ c.fd := List.mem_of_getElem? hp2
    have hb := x3 _ hpm
    have hnf := w4 _ hm
    unfold Cfg.fdB at hb
    cases hpr : p.1.pr with
    | true => rw [hpr] at e; cases e
    | false =>
      rw [hpr, if_neg Bool.false_ne_true] at e hb
      cases q : p.1.at_ with
      | mk C b =>
        rw [q] at e hb
        cases b with
        | none => cases e
        | some m =>
          dsimp only at e hb
          cases qm : m == iniStr with
          | true => rw [qm] at e; simp at e
          | false =>
            rw [qm] at e hb
            simp only [Bool.false_eq_true, if_false] at e hb
            cases qc : c.clsNo C with
            | none => rw [qc] at e; cases e
            | some k =>
              rw [qc] at e
              cases e
              refine ⟨?_, ?_⟩
              · show Meth K (He.ga K (c.cl n).1) mn ((c.T K).fa p.2)
                rw [cl_at qc, fa_at hp2, pl_ad hpr, q]
                exact He.meth_ok hb
              · show mn ∉ (c.cl n).2
                intro z
                simp [z] at hnf
  · obtain ⟨p, hp, e⟩ := List.mem_filterMap.mp hm
    have hp2 := mem_zip hp
    have hpm : p.1 ∈ c.fd := List.mem_of_getElem? hp2
    have hb := x3 _ hpm
    unfold Cfg.fdB at hb
    cases hpr : p.1.pr with
    | false => rw [hpr] at e; cases e
    | true =>
      rw [hpr, if_pos rfl] at e hb
      cases qc : c.clsNo p.1.at_.1 with
      | none => rw [qc] at e; cases e
      | some k =>
        rw [qc] at e
        cases e
        refine ⟨pA K p.1.at_.1 p.1.mn, ?_⟩
        show PropOf K (He.ga K (c.cl n).1) p.1.mn (pA K p.1.at_.1 p.1.mn) ((c.T K).fa p.2)
        have ea : p.1.ad K = gA K p.1.at_.1 p.1.mn := by
          unfold FdX.ad
          rw [hpr] <;> rfl
        rw [cl_at qc, fa_at hp2, ea]
        exact propB_ok hb
  · obtain ⟨⟨⟨⟨⟨⟨⟨a1, a2⟩, a3⟩, a4⟩, a5⟩, a6⟩, a7⟩, a8⟩ := cb n
    exact ⟨He.cls_ok a2, fun f hf => He.noat_ok (a3 f hf), (w2 _ (Cfg.cl_mem hw0 n)).1, a4, a5, a6, a7⟩
  · obtain ⟨⟨⟨⟨⟨⟨⟨a1, a2⟩, a3⟩, a4⟩, a5⟩, a6⟩, a7⟩, a8⟩ := cb n
    exact ⟨fun x hx => (a8 x hx).1, fun x hx => (a8 x hx).2⟩
  · exact (w2 _ (Cfg.cl_mem hw0 n)).2
end
end Mn
/-! Mn30: from a table to its defs; the end of a law. -/
namespace Mn
open PySem PySem.Spec PyProof.Rows L2
/-! ### plain parameters -/
theorem fm_congr {α β : Type} {f g : α → Option β} : ∀ {l : List α}, (∀ a ∈ l, f a = g a) → l.filterMap f = l.filterMap g
  | [], _ => rfl
  | a :: l, h => by
    rw [List.filterMap_cons, List.filterMap_cons, h a List.mem_cons_self, fm_congr fun b hb => h b (List.mem_cons_of_mem _ hb)]
theorem zip_look {α : Type} : ∀ {ns : List Str} {us : List α}, ns.Nodup → us.length = ns.length → ns.filterMap (fun n => ((ns.zip us).lookup n).map (n, ·)) = ns.zip us
  | [], [], _, _ => rfl
  | n :: ns, u :: us, nd, hl => by
    have h1 := (List.nodup_cons.mp nd).1
    rw [List.zip_cons_cons, List.filterMap_cons, List.lookup_cons, beq_self_eq_true]
    dsimp only [Option.map]
    congr 1
    have e : ns.filterMap (fun m => (((n, u) :: ns.zip us).lookup m).map (m, ·)) = ns.filterMap (fun m => ((ns.zip us).lookup m).map (m, ·)) := by
      refine fm_congr fun m hm => ?_
      rw [List.lookup_cons]
      have : (m == n) = false := beq_eq_false_iff_ne.mpr fun z => h1 (z ▸ hm)
      rw [this]
    have := zip_look (List.nodup_cons.mp nd).2 (by simpa using hl)
    exact e.trans this
theorem zip_some {α : Type} : ∀ {ns : List Str} {us : List α} {n : Str}, us.length = ns.length → n ∈ ns → ((ns.zip us).lookup n).isNone = false
  | [], _, _, _, h => by cases h
  | m :: ns, u :: us, n, hl, h => by
    rw [List.zip_cons_cons, List.lookup_cons]
    cases q : n == m with
    | true => rfl
    | false =>
      rcases List.mem_cons.mp h with z | z
      · rw [z, beq_self_eq_true] at q; cases q
      · exact zip_some (by simpa using hl) z
theorem bind_plain {fd : FuncData} {as : List Arg} {us : List Value} (hp : fd.params = ⟨[], as, none, [], [], none, []⟩) (hd : fd.defaults = .none) (nd : (as.map (·.arg)).Nodup) (hl : us.length = (as.map (·.arg)).length) :
    bindArgs fd ⟨us, []⟩ = pure ((as.map (·.arg)).zip us) := by
  have key : ∀ ns : List Str, as.map (·.arg) = ns → ns.Nodup → us.length = ns.length → bindArgs fd ⟨us, []⟩ = pure (ns.zip us) := by
    intro ns hn nd hl
    unfold bindArgs
    rw [hp, hd]
    have e1 : seqItems? Value.none = pure none := rfl
    have hz : (ns.filter fun n => ((ns.zip us).lookup n).isNone) = [] := by
      rw [List.filter_eq_nil_iff]
      intro n hn
      rw [zip_some hl hn]
      simp
    have hlz : us.length ≤ ns.length := Nat.le_of_eq hl
    dsimp only
    rw [hn]
    simp [e1, hl, hz, zip_look nd hl]
  exact key _ rfl nd hl
/-! ### the check of a def -/
def scB (N ps : List Str) (sc : Scope) : Bool := decide (sc.kind = .function) && !sc.isCoroutine && !sc.isGenerator && decide N.Nodup && decide (N.take ps.length = ps) &&
  ps.all (fun x => decide (sc.names.lookup x = some .local) || decide (sc.names.lookup x = some .cell)) && sc.names.all (fun y => decide (y.2 ≠ .free))
theorem scB_ok {N ps : List Str} {sc : Scope} (h : scB N ps sc = true) : FnScope N ps sc := by
  unfold scB at h
  simp only [Bool.and_eq_true, decide_eq_true_eq, Bool.not_eq_true', List.all_eq_true, Bool.or_eq_true] at h
  obtain ⟨⟨⟨⟨⟨⟨h1, h2⟩, h3⟩, h4⟩, h5⟩, h6⟩, h7⟩ := h
  exact ⟨h1, h2, h3, h4, h5, h6, h7⟩
def paB (ps : List Str) : Arguments → Bool
  | ⟨[], as, none, [], [], none, []⟩ => decide (as.map (·.arg) = ps)
  | _ => false
theorem paB_ok {ps : List Str} {pa : Arguments} (h : paB ps pa = true) : ∃ as, pa = ⟨[], as, none, [], [], none, []⟩ ∧ as.map (·.arg) = ps := by
  unfold paB at h
  split at h
  · exact ⟨_, rfl, of_decide_eq_true h⟩
  · cases h
def FdX.okB (c : Cfg) (f : Nat) (x : FdX) : Bool := decide (x.m.ini = c.iniOf f) && scB x.N x.ps (defScope x.st) && decide x.ps.Nodup && paB x.ps (defArgs x.st) && decide (x.N.length = x.m.ns) &&
  decide (x.ps.length = (match x.m.ini with | none => x.m.np | some _ => x.m.np + 1)) && chkCs { c.ck with N := x.N } ⟨defScope x.st, locB (defScope x.st)⟩ x.m.body (defBody x.st)
/-- all defs of a table are told by their texts -/
def Cfg.okB (c : Cfg) : Bool := c.fd.zipIdx.all fun p => p.1.okB c p.2
section
variable {c : Cfg} {K : PySem.W.Frag}
theorem Cfg.np_of {f : Nat} {x : FdX} (e : c.fd[f]? = some x) : c.np f = x.m.np := by
  unfold Cfg.np
  rw [e] <;> rfl
/-- what a checked def is -/
structure FdX.Ok (c : Cfg) (K : PySem.W.Frag) (f : Nat) (x : FdX) (fd : FuncData) : Prop where
  fn : FunD K x.name x.qual (defArgs x.st) (defBody x.st) (defScope x.st) [] [] ((c.T K).fa f) fd
  np : x.m.np = c.ck.np f
  ini : x.m.ini = c.ck.ini f
  sc : FnScope x.N x.ps (defScope x.st)
  bd : ∀ (s : Shared) (us : List Value), us.length = x.ps.length → BindsTo s fd ⟨us, []⟩ (x.ps.zip us)
  bk : Binds K fd x.ps []
  ns : x.N.length = x.m.ns
  pl : x.ps.length = (match x.m.ini with | none => x.m.np | some _ => x.m.np + 1)
  ch : chkCs { c.ck with N := x.N } ⟨defScope x.st, locB (defScope x.st)⟩ x.m.body (defBody x.st) = true
theorem Cfg.fa_of {f : Nat} {x : FdX} (e : c.fd[f]? = some x) : (c.T K).fa f = x.ad K := by
  show (match c.fd[f]? with | some x => x.ad K | none => 0) = _
  rw [e]
theorem Cfg.ok_at (hc : c.okB = true) (hd : ∀ f ∈ c.fd, ∃ fd, FunD K f.name f.qual (defArgs f.st) (defBody f.st) (defScope f.st) [] [] (f.ad K) fd) {f : Nat} {x : FdX} (e : c.fd[f]? = some x) : ∃ fd, x.Ok c K f fd := by
  unfold Cfg.okB at hc
  rw [List.all_eq_true] at hc
  have h := hc _ (zip_mem e)
  unfold FdX.okB at h
  simp only [Bool.and_eq_true, decide_eq_true_eq] at h
  obtain ⟨⟨⟨⟨⟨⟨h1, h2⟩, h3⟩, h4⟩, h5⟩, h6⟩, h7⟩ := h
  obtain ⟨fd, F'⟩ := hd x (List.mem_of_getElem? e)
  obtain ⟨as, pe, pn⟩ := paB_ok h4
  refine ⟨fd, ⟨?_, (Cfg.np_of e).symm, h1, scB_ok h2, ?_, ?_, h5, h6, h7⟩⟩
  · rw [Cfg.fa_of e]
    exact F'
  · exact fun s us hl => F'.bindsA (ps := x.ps) (fun kV doc pm an cdv ct us hl => by
      rw [← pn]
      exact bind_plain pe rfl (by rw [pn]; exact h3) (by rw [pn]; exact hl)) s us hl
  · exact F'.bindsN fun kV doc pm an cdv ct us hl => by
      rw [← pn]
      exact bind_plain pe rfl (by rw [pn]; exact h3) (by rw [pn]; exact hl)
theorem Cfg.fns_at {f : Nat} {x : FdX} (e : c.fd[f]? = some x) : c.fns[f]? = some x.m := by
  unfold Cfg.fns
  rw [List.getElem?_map, e] <;> rfl
variable {h : Heap} {mg : Str → Option Value} {P : Program} {w : World} {base : Heap}
/-- the law's def does what the evaluator tells -/
theorem Cfg.law_fn (lk : Lk (c.T K) mg c.ck c.gl) (ok : ∀ {f : Nat} {x : FdX}, c.fd[f]? = some x → ∃ fd, x.Ok c K f fd) (N n : Nat) {f : Nat} {x : FdX} {fd : FuncData} (e : c.fd[f]? = some x) (hx : x.Ok c K f fd) (hi : x.m.ini = none) :
    FnOk P w K mg base (L2.CX P w) (2 * n + 2) ((c.T K).fa f) fd x.ps (spF (c.T K) (runF c.fns c.gl N (n + 1)) f x.m.np) := by
  have hd : ∀ f, f < c.ck.nf → ∃ m, c.fns[f]? = some m ∧ DefOk (c.T K) c.ck f m := fun f hf => by
    have e : c.fd[f]? = some c.fd[f] := List.getElem?_eq_getElem hf
    obtain ⟨fd, o⟩ := ok e
    exact ⟨_, Cfg.fns_at e, o.np, o.ini, _, _, _, _, _, fd, _, _, o.fn, o.sc, o.bk, o.ns, o.pl, o.ch⟩
  have fk := fns_ok (P := P) (w := w) (base := base) (N := N) lk hd n
  have := (fn_stepW (N := N) (P := P) (w := w) (base := base) (cl2 := runF c.fns c.gl N (n + 1)) lk fk hx.np hx.ini hx.fn hx.sc hx.ns hx.pl hx.ch fun ds G => by
    show (match c.fns[f]? with
      | some m => if ds.length = m.np then m.out (evCs (runF c.fns c.gl N n) c.gl N m.body (m.e0 ds) G) else .no
      | none => .no) = _
    rw [Cfg.fns_at e]).1 (by rw [← hx.ini]; exact hi)
  rw [← hx.np] at this
  exact this
end
/-- the end of a law: what the evaluator tells of every script -/
theorem Cfg.law_at {l : PySem.W.OpenLaw} {w : World} {K : PySem.W.Frag} {h : Heap} {mg : Str → Option Value} (c : Cfg) {most f : Nat} {x : FdX} (N n : Nat) (X : K.In h) (G : h.Ns mainGlobals mg) (hx : c.exB K = true) (hw : c.wf = true) (hc : c.okB = true)
    (hd : ∀ f ∈ c.fd, ∃ fd, FunD K f.name f.qual (defArgs f.st) (defBody f.st) (defScope f.st) [] [] (f.ad K) fd) (e : c.fd[f]? = some x) (hi : x.m.ini = none) (hn : x.m.np = 1) {y : Str} (hp : x.ps = [y]) {fa : Addr} (hfa : fa = x.ad K)
    (he : ∀ ns : List Int, ns.length ≤ most → (∀ z ∈ ns, Builtin.Int.intBits z ≤ 1048576) → ∃ G', runF c.fns c.gl N (n + 1) f [.scr ns] [] = .ok (.d (.bl true)) G') : LamX.LawAtS l w K (L2.CX l.prog w) (2 * n + 2) most y mg fa h := by
  have hk : ∀ f ∈ c.fd, f.pr = false → PySem.W.keepIn K (.ref (He.fAd K f.at_)) = true := fun f hf hp => by
    obtain ⟨fd, F⟩ := hd f hf
    have := F.kp
    unfold FdX.ad at this
    rw [hp, if_neg Bool.false_ne_true] at this
    exact this
  obtain ⟨fd, o⟩ := Cfg.ok_at hc hd e
  have hfa2 : fa = (c.T K).fa f := by
    rw [hfa, Cfg.fa_of e]
  refine ⟨fd, [], spF (c.T K) (runF c.fns c.gl N (n + 1)) f 1, fun p hp => (nomatch hp), fun p hp => (nomatch hp), fun p hp => (nomatch hp), fun s u => ?_, fun H a ns hl hb _ hS => ?_, fun base KB GB _ => ?_⟩
  · have := o.bd s [u] (by rw [hp] <;> rfl)
    rw [hp] at this
    exact this
  · obtain ⟨G', e2⟩ := he ns hl hb
    refine ⟨rfl, fun _ => none, ⟨H, [], none⟩, [], [.scr ns], rfl, ⟨fun p o q => q, fun p o q => (nomatch q), rfl, List.nodup_nil, fun n p o q => by simp at q⟩, DenL.one ⟨a, rfl, hS⟩, ?_⟩
    rw [e2]
    exact fun v m' H' _ _ dw => dw
  · have lkB : Lk (c.T K) mg c.ck c.gl := Cfg.lk KB GB hx hk hw
    have := Cfg.law_fn (P := l.prog) (w := w) (base := base) lkB (fun e => Cfg.ok_at hc hd e) N n e o hi
    rw [hn, hp] at this
    rw [hfa2]
    exact this
/-- .. from what the head tells -/
theorem Cfg.law_end {l : PySem.W.OpenLaw} {w : World} {h : Heap} {mg : Str → Option Value} (c : Cfg) {most f k : Nat} {x : FdX} (N n : Nat) {fa : Addr} {law y : Str} (Y : (hookC k c.exR FdX.ad c.fd c.vals).says w h) (G : h.Ns mainGlobals mg) (hmg : mg law = some (.ref fa)) (hw : c.wf = true) (hc : c.okB = true)
    (hl : c.fnL.lookup law = some f) (e : c.fd[f]? = some x) (hi : x.m.ini = none) (hn : x.m.np = 1) (hp : x.ps = [y])
    (he : ∀ ns : List Int, ns.length ≤ most → (∀ z ∈ ns, Builtin.Int.intBits z ≤ 1048576) → ∃ G', runF c.fns c.gl N (n + 1) f [.scr ns] [] = .ok (.d (.bl true)) G') : ∃ K : PySem.W.Frag, K.In h ∧ LamX.LawAtS l w K (L2.CX l.prog w) (2 * n + 2) most y mg fa h := by
  obtain ⟨K, KX, q⟩ := Y
  have q1 : c.exR K = true := congrArg (fun z : AlC => z.1) q
  have q2 : (c.fd.map fun d => fnA K (FdX.ad K d)) = c.fd.map fun f => f.d.val := congrArg (fun z : AlC => z.2) q
  unfold Cfg.exR Cfg.fkB at q1
  rw [Bool.and_eq_true, List.all_eq_true] at q1
  obtain ⟨hx, ho⟩ := q1
  have hd : ∀ f ∈ c.fd, ∃ fd, FunD K f.name f.qual (defArgs f.st) (defBody f.st) (defScope f.st) [] [] (f.ad K) fd := fun f hf => funA (d := f.d) ((List.map_inj_left.mp q2) f hf) (ho f hf)
  have hk : ∀ f ∈ c.fd, f.pr = false → PySem.W.keepIn K (.ref (He.fAd K f.at_)) = true := fun f hf hp => by
    obtain ⟨fd, F⟩ := hd f hf
    have := F.kp
    unfold FdX.ad at this
    rw [hp, if_neg Bool.false_ne_true] at this
    exact this
  have lk := Cfg.lk KX G hx hk hw
  refine ⟨K, KX, Cfg.law_at c N n KX G hx hw hc hd e hi hn hp ?_ he⟩
  have e2 := (lk.fn law f hl).1
  rw [hmg] at e2
  injection e2 with e3
  injection e3 with e4
  rw [e4, Cfg.fa_of e]
end Mn
namespace Lw
open PySem PySem.Spec PyProof.Rows L2 Mn
abbrev Pw : Program := PySem.Challenge.pw_pricefan_k51_known_answers
def topS (i : Nat) : Stmt := Pw.main.body.getD i (.Pass ⟨0, 0, 0, 0⟩)
def clsBody : Stmt → List Stmt
  | .ClassDef _ _ _ b _ _ _ _ _ _ _ => b
  | _ => []
/-- 0: copied (0 value, 1 one, 2 key) -/
def b0 : Cs := (.cons (.if_ (.isi (.var 0) .list) (.cons (.ret (.lc [1] (.call 0 (.cons (.var 1) .nil)) (.nm 1) (.seq (.var 0)) .none)) .nil) .nil) (.cons (.if_ (.isi (.var 0) .tuple) (.cons (.ret (.b1 .tup (.lc [1] (.call 0 (.cons (.var 1) .nil)) (.nm 1) (.seq (.var 0)) .none))) .nil) .nil) (.cons (.if_ (.isi (.var 0) .dict) (.cons (.rais 0 .nil) .nil) .nil) (.cons (.ret (.var 0)) .nil))))
def f0 : FdX := ⟨("copied", none), "copied", "copied", topS 1, ⟨1, 3, none, b0⟩, ["value", "one", "key"], ["value"], false⟩
/-- 1: is_word (0 value, 1 letter) -/
def b1 : Cs := (.cons (.if_ (.or (.not (.isi (.var 0) .str)) (.not (.chn .le .le (.kI 1) (.b1 .len (.var 0)) (.glb 1)))) (.cons (.ret (.kB false)) .nil) .nil) (.cons (.ret (.b1 .all (.lc [1] (.cmp .mem (.var 1) (.glb 0)) (.nm 1) (.seq (.var 0)) .none))) .nil))
def f1 : FdX := ⟨("is_word", none), "is_word", "is_word", topS 20, ⟨1, 2, none, b1⟩, ["value", "letter"], ["value"], false⟩
/-- 2: is_number (0 value, 1 least, 2 most) -/
def b2 : Cs := (.cons (.ret (.and (.isi (.var 0) .int) (.and (.not (.isi (.var 0) .bool)) (.chn .le .le (.var 1) (.var 0) (.var 2))))) .nil)
def f2 : FdX := ⟨("is_number", none), "is_number", "is_number", topS 21, ⟨3, 3, none, b2⟩, ["value", "least", "most"], ["value", "least", "most"], false⟩
/-- 3: are_names (0 value, 1 name) -/
def b3 : Cs := (.cons (.if_ (.or (.not (.isi (.var 0) .lt)) (.not (.chn .le .le (.kI 2) (.b1 .len (.var 0)) (.kI 4)))) (.cons (.ret (.kB false)) .nil) .nil) (.cons (.ret (.and (.b1 .all (.lc [1] (.call 1 (.cons (.var 1) .nil)) (.nm 1) (.seq (.var 0)) .none)) (.cmp .eq (.b1 .setlen (.var 0)) (.b1 .len (.var 0))))) .nil))
def f3 : FdX := ⟨("are_names", none), "are_names", "are_names", topS 22, ⟨1, 2, none, b3⟩, ["value", "name"], ["value"], false⟩
/-- 4: is_heap (0 value, 1 many, 2 count) -/
def b4 : Cs := (.cons (.if_ (.or (.not (.isi (.var 0) .tuple)) (.cmp .ne (.b1 .len (.var 0)) (.var 1))) (.cons (.ret (.kB false)) .nil) .nil) (.cons (.ret (.b1 .all (.lc [2] (.and (.isi (.var 2) .int) (.and (.not (.isi (.var 2) .bool)) (.cmp .ge (.var 2) (.kI 0)))) (.nm 2) (.seq (.var 0)) .none))) .nil))
def f4 : FdX := ⟨("is_heap", none), "is_heap", "is_heap", topS 23, ⟨2, 3, none, b4⟩, ["value", "many", "count"], ["value", "many"], false⟩
/-- 5: Kinds.__init__ (0 self, 1 names, 2 weights, 3 weight) -/
def b5 : Cs := (.cons (.if_ (.or (.not (.call 3 (.cons (.var 1) .nil))) (.or (.not (.isi (.var 2) .lt)) (.cmp .ne (.b1 .len (.var 2)) (.b1 .len (.var 1))))) (.cons (.rais 0 .nil) .nil) .nil) (.cons (.if_ (.not (.b1 .all (.lc [3] (.call 2 (.cons (.var 3) (.cons (.kI 1) (.cons (.glb 2) .nil)))) (.nm 3) (.seq (.var 2)) .none))) (.cons (.rais 0 .nil) .nil) .nil) (.cons (.setf (.own 0) 0 0 (.b1 .tup (.var 1))) (.cons (.setf (.own 0) 0 1 (.b1 .tup (.var 2))) .nil))))
def f5 : FdX := ⟨("Kinds", some "__init__"), "__init__", "Kinds.__init__", ((clsBody (topS 24)).getD 0 (.Pass ⟨0, 0, 0, 0⟩)), ⟨2, 4, (some 0), b5⟩, ["self", "names", "weights", "weight"], ["self", "names", "weights"], false⟩
/-- 6: Kinds.names (0 self) -/
def b6 : Cs := (.cons (.ret (.b1 .list (.fld (.var 0) 0 0))) .nil)
def f6 : FdX := ⟨("Kinds", some "names"), "names", "Kinds.names", ((clsBody (topS 24)).getD 1 (.Pass ⟨0, 0, 0, 0⟩)), ⟨1, 1, none, b6⟩, ["self"], ["self"], false⟩
/-- 7: Kinds.weights (0 self) -/
def b7 : Cs := (.cons (.ret (.b1 .list (.fld (.var 0) 0 1))) .nil)
def f7 : FdX := ⟨("Kinds", some "weights"), "weights", "Kinds.weights", ((clsBody (topS 24)).getD 2 (.Pass ⟨0, 0, 0, 0⟩)), ⟨1, 1, none, b7⟩, ["self"], ["self"], false⟩
/-- 8: Kinds.__len__ (0 self) -/
def b8 : Cs := (.cons (.ret (.b1 .len (.fld (.var 0) 0 0))) .nil)
def f8 : FdX := ⟨("Kinds", some "__len__"), "__len__", "Kinds.__len__", ((clsBody (topS 24)).getD 3 (.Pass ⟨0, 0, 0, 0⟩)), ⟨1, 1, none, b8⟩, ["self"], ["self"], false⟩
/-- 9: Kinds.need_heap (0 self, 1 value) -/
def b9 : Cs := (.cons (.if_ (.not (.call 4 (.cons (.var 1) (.cons (.b1 .len (.fld (.var 0) 0 0)) .nil)))) (.cons (.rais 0 .nil) .nil) .nil) .nil)
def f9 : FdX := ⟨("Kinds", some "need_heap"), "need_heap", "Kinds.need_heap", ((clsBody (topS 24)).getD 5 (.Pass ⟨0, 0, 0, 0⟩)), ⟨2, 2, none, b9⟩, ["self", "value"], ["self", "value"], false⟩
/-- 10: Kinds.weight (0 self, 1 heap) -/
def b10 : Cs := (.cons (.ex (.mth (.var 0) 0 9 (.cons (.var 1) .nil))) (.cons (.ret (.mth (.var 0) 0 11 (.cons (.var 1) .nil))) .nil))
def f10 : FdX := ⟨("Kinds", some "weight"), "weight", "Kinds.weight", ((clsBody (topS 24)).getD 6 (.Pass ⟨0, 0, 0, 0⟩)), ⟨2, 2, none, b10⟩, ["self", "heap"], ["self", "heap"], false⟩
/-- 11: Kinds.load_of (0 self, 1 heap, 2 count, 3 load) -/
def b11 : Cs := (.cons (.ret (.b1 .sum (.lc [2, 3] (.bin .mul (.var 2) (.var 3)) (.tp (.cons (.nm 2) (.cons (.nm 3) .nil))) (.zip true (.var 1) (.fld (.var 0) 0 1)) .none))) .nil)
def f11 : FdX := ⟨("Kinds", some "load_of"), "load_of", "Kinds.load_of", ((clsBody (topS 24)).getD 7 (.Pass ⟨0, 0, 0, 0⟩)), ⟨2, 4, none, b11⟩, ["self", "heap", "count", "load"], ["self", "heap"], false⟩
/-- 12: added (0 h, 1 k, 2 one, 3 other) -/
def b12 : Cs := (.cons (.ret (.b1 .tup (.lc [2, 3] (.bin .add (.var 2) (.var 3)) (.tp (.cons (.nm 2) (.cons (.nm 3) .nil))) (.zip true (.var 0) (.var 1)) .none))) .nil)
def f12 : FdX := ⟨("added", none), "added", "added", topS 25, ⟨2, 4, none, b12⟩, ["h", "k", "one", "other"], ["h", "k"], false⟩
/-- 13: holds (0 h, 1 k, 2 one, 3 other) -/
def b13 : Cs := (.cons (.ret (.b1 .all (.lc [2, 3] (.cmp .ge (.var 2) (.var 3)) (.tp (.cons (.nm 2) (.cons (.nm 3) .nil))) (.zip true (.var 0) (.var 1)) .none))) .nil)
def f13 : FdX := ⟨("holds", none), "holds", "holds", topS 26, ⟨2, 4, none, b13⟩, ["h", "k", "one", "other"], ["h", "k"], false⟩
/-- 14: taken (0 h, 1 k, 2 one, 3 other) -/
def b14 : Cs := (.cons (.ret (.b1 .tup (.lc [2, 3] (.bin .sub (.var 2) (.var 3)) (.tp (.cons (.nm 2) (.cons (.nm 3) .nil))) (.zip true (.var 0) (.var 1)) .none))) .nil)
def f14 : FdX := ⟨("taken", none), "taken", "taken", topS 27, ⟨2, 4, none, b14⟩, ["h", "k", "one", "other"], ["h", "k"], false⟩
/-- 15: crossing (0 h, 1 k, 2 one, 3 other) -/
def b15 : Cs := (.cons (.ret (.b1 .tup (.lc [2, 3] (.b2 .max (.var 2) (.var 3)) (.tp (.cons (.nm 2) (.cons (.nm 3) .nil))) (.zip true (.var 0) (.var 1)) .none))) .nil)
def f15 : FdX := ⟨("crossing", none), "crossing", "crossing", topS 28, ⟨2, 4, none, b15⟩, ["h", "k", "one", "other"], ["h", "k"], false⟩
/-- 16: heaps_of (0 kinds, 1 weight, 2 found, 3 load, 4 heap, 5 rest, 6 count) -/
def b16 : Cs := (.cons (.if_ (.not (.call 2 (.cons (.var 1) (.cons (.kI 0) (.cons (.glb 3) .nil))))) (.cons (.rais 0 .nil) .nil) .nil) (.cons (.asg (.nm 2) (.lst (.cons (.tup (.cons (.tup .nil) (.cons (.var 1) .nil))) .nil))) (.cons (.for_ (.nm 3) (.seq (.fld (.var 0) 0 1)) (.cons (.asg (.nm 2) (.lc2 [4, 5, 6] (.tup (.cons (.tup (.star (.var 4) (.cons (.var 6) .nil))) (.cons (.bin .sub (.var 5) (.bin .mul (.var 6) (.var 3))) .nil))) (.tp (.cons (.nm 4) (.cons (.nm 5) .nil))) (.seq (.var 2)) (.nm 6) (.rng (.kI 0) (.bin .add (.bin .fdv (.var 5) (.var 3)) (.kI 1))))) .nil)) (.cons (.ret (.lc [4, 5] (.var 4) (.tp (.cons (.nm 4) (.cons (.nm 5) .nil))) (.seq (.var 2)) (.some (.cmp .eq (.var 5) (.kI 0))))) .nil))))
def f16 : FdX := ⟨("heaps_of", none), "heaps_of", "heaps_of", topS 29, ⟨2, 7, none, b16⟩, ["kinds", "weight", "found", "load", "heap", "rest", "count"], ["kinds", "weight"], false⟩
/-- 17: need_names (0 exchanges, 1 name, 2 left, 3 right, 4 met) -/
def b17 : Cs := (.cons (.for_ (.tp (.cons (.nm 1) (.cons (.nm 2) (.cons (.nm 3) .nil)))) (.seq (.var 0)) (.cons (.if_ (.not (.call 1 (.cons (.var 1) .nil))) (.cons (.rais 0 .nil) .nil) .nil) .nil)) (.cons (.asgO 4 (.dct0 false)) (.cons (.for_ (.tp (.cons (.nm 1) (.cons (.nm 2) (.cons (.nm 3) .nil)))) (.seq (.var 0)) (.cons (.if_ (.cmp .mem (.var 1) (.own 4)) (.cons (.rais 0 .nil) .nil) .nil) (.cons (.seto (.own 4) (.var 1) (.kB true)) .nil))) .nil)))
def f17 : FdX := ⟨("need_names", none), "need_names", "need_names", topS 34, ⟨1, 5, none, b17⟩, ["exchanges", "name", "left", "right", "met"], ["exchanges"], false⟩
/-- 18: need_sides (0 kinds, 1 exchanges, 2 name, 3 left, 4 right, 5 weights) -/
def b18 : Cs := (.cons (.for_ (.tp (.cons (.nm 2) (.cons (.nm 3) (.cons (.nm 4) .nil)))) (.seq (.var 1)) (.cons (.ex (.mth (.var 0) 0 9 (.cons (.var 3) .nil))) (.cons (.ex (.mth (.var 0) 0 9 (.cons (.var 4) .nil))) .nil))) (.cons (.for_ (.tp (.cons (.nm 2) (.cons (.nm 3) (.cons (.nm 4) .nil)))) (.seq (.var 1)) (.cons (.asg (.nm 5) (.tup (.cons (.mth (.var 0) 0 11 (.cons (.var 3) .nil)) (.cons (.mth (.var 0) 0 11 (.cons (.var 4) .nil)) .nil)))) (.cons (.if_ (.or (.cmp .eq (.var 3) (.var 4)) (.or (.cmp .ne (.ix (.var 5) (.kI 0)) (.ix (.var 5) (.kI 1))) (.cmp .gt (.ix (.var 5) (.kI 0)) (.glb 5)))) (.cons (.rais 0 .nil) .nil) .nil) .nil))) .nil))
def f18 : FdX := ⟨("need_sides", none), "need_sides", "need_sides", topS 35, ⟨2, 6, none, b18⟩, ["kinds", "exchanges", "name", "left", "right", "weights"], ["kinds", "exchanges"], false⟩
/-- 19: Book.__init__ (0 self, 1 kinds, 2 exchanges, 3 exchange) -/
def b19 : Cs := (.cons (.ex (.call 17 (.cons (.var 2) .nil))) (.cons (.ex (.call 18 (.cons (.var 1) (.cons (.var 2) .nil)))) (.cons (.if_ (.cmp .gt (.b1 .len (.var 2)) (.glb 4)) (.cons (.rais 0 .nil) .nil) .nil) (.cons (.setf (.own 0) 1 0 (.var 1)) (.cons (.setf (.own 0) 1 1 (.b1 .tup (.lc [3] (.b1 .tup (.var 3)) (.nm 3) (.seq (.var 2)) .none))) .nil)))))
def f19 : FdX := ⟨("Book", some "__init__"), "__init__", "Book.__init__", ((clsBody (topS 36)).getD 0 (.Pass ⟨0, 0, 0, 0⟩)), ⟨2, 4, (some 1), b19⟩, ["self", "kinds", "exchanges", "exchange"], ["self", "kinds", "exchanges"], false⟩
/-- 20: Book.kinds (0 self) -/
def b20 : Cs := (.cons (.ret (.fld (.var 0) 1 0)) .nil)
def f20 : FdX := ⟨("Book", some "kinds"), "kinds", "Book.kinds", ((clsBody (topS 36)).getD 1 (.Pass ⟨0, 0, 0, 0⟩)), ⟨1, 1, none, b20⟩, ["self"], ["self"], true⟩
/-- 21: Book.exchanges (0 self) -/
def b21 : Cs := (.cons (.ret (.b1 .list (.fld (.var 0) 1 1))) .nil)
def f21 : FdX := ⟨("Book", some "exchanges"), "exchanges", "Book.exchanges", ((clsBody (topS 36)).getD 2 (.Pass ⟨0, 0, 0, 0⟩)), ⟨1, 1, none, b21⟩, ["self"], ["self"], false⟩
/-- 22: Book.has_name (0 self, 1 value, 2 line) -/
def b22 : Cs := (.cons (.ret (.and (.isi (.var 1) .str) (.cmp .mem (.var 1) (.lc [2] (.ix (.var 2) (.kI 0)) (.nm 2) (.seq (.fld (.var 0) 1 1)) .none)))) .nil)
def f22 : FdX := ⟨("Book", some "has_name"), "has_name", "Book.has_name", ((clsBody (topS 36)).getD 3 (.Pass ⟨0, 0, 0, 0⟩)), ⟨2, 3, none, b22⟩, ["self", "value", "line"], ["self", "value"], false⟩
/-- 23: Book.sides (0 self, 1 name, 2 line) -/
def b23 : Cs := (.cons (.if_ (.not (.mth (.var 0) 1 22 (.cons (.var 1) .nil))) (.cons (.rais 0 .nil) .nil) .nil) (.cons (.ret (.ix (.lc [2] (.sl (.var 2) (.some (.kI 1)) .none) (.nm 2) (.seq (.fld (.var 0) 1 1)) (.some (.cmp .eq (.ix (.var 2) (.kI 0)) (.var 1)))) (.kI 0))) .nil))
def f23 : FdX := ⟨("Book", some "sides"), "sides", "Book.sides", ((clsBody (topS 36)).getD 4 (.Pass ⟨0, 0, 0, 0⟩)), ⟨2, 3, none, b23⟩, ["self", "name", "line"], ["self", "name"], false⟩
/-- 24: Book.__len__ (0 self) -/
def b24 : Cs := (.cons (.ret (.b1 .len (.fld (.var 0) 1 1))) .nil)
def f24 : FdX := ⟨("Book", some "__len__"), "__len__", "Book.__len__", ((clsBody (topS 36)).getD 6 (.Pass ⟨0, 0, 0, 0⟩)), ⟨1, 1, none, b24⟩, ["self"], ["self"], false⟩
/-- 25: is_deed (0 book, 1 value) -/
def b25 : Cs := (.cons (.if_ (.or (.not (.isi (.var 1) .tuple)) (.or (.cmp .ne (.b1 .len (.var 1)) (.kI 2)) (.not (.mth (.var 0) 1 22 (.cons (.ix (.var 1) (.kI 0)) .nil))))) (.cons (.ret (.kB false)) .nil) .nil) (.cons (.ret (.and (.isi (.ix (.var 1) (.kI 1)) .str) (.cmp .mem (.ix (.var 1) (.kI 1)) (.glb 6)))) .nil))
def f25 : FdX := ⟨("is_deed", none), "is_deed", "is_deed", topS 37, ⟨2, 2, none, b25⟩, ["book", "value"], ["book", "value"], false⟩
/-- 26: step (0 book, 1 heap, 2 deed, 3 out, 4 put) -/
def b26 : Cs := (.cons (.if_ (.not (.call 25 (.cons (.var 0) (.cons (.var 2) .nil)))) (.cons (.ret .kN) .nil) .nil) (.cons (.asg (.tp (.cons (.nm 3) (.cons (.nm 4) .nil))) (.mth (.var 0) 1 23 (.cons (.ix (.var 2) (.kI 0)) .nil))) (.cons (.if_ (.cmp .eq (.ix (.var 2) (.kI 1)) (.kS "back")) (.cons (.par 3 4 false (.var 4) (.var 3)) .nil) .nil) (.cons (.ret (.ite (.call 13 (.cons (.var 1) (.cons (.var 3) .nil))) (.call 12 (.cons (.call 14 (.cons (.var 1) (.cons (.var 3) .nil))) (.cons (.var 4) .nil))) .kN)) .nil))))
def f26 : FdX := ⟨("step", none), "step", "step", topS 38, ⟨3, 5, none, b26⟩, ["book", "heap", "deed", "out", "put"], ["book", "heap", "deed"], false⟩
/-- 27: turned_back (0 deeds, 1 name, 2 way) -/
def b27 : Cs := (.cons (.ret (.rev (.lc [1, 2] (.tup (.cons (.var 1) (.cons (.ite (.cmp .eq (.var 2) (.kS "there")) (.kS "back") (.kS "there")) .nil))) (.tp (.cons (.nm 1) (.cons (.nm 2) .nil))) (.seq (.var 0)) .none))) .nil)
def f27 : FdX := ⟨("turned_back", none), "turned_back", "turned_back", topS 39, ⟨1, 3, none, b27⟩, ["deeds", "name", "way"], ["deeds"], false⟩
/-- 28: first_fit (0 lines, 1 heap, 2 number, 3 line) -/
def b28 : Cs := (.cons (.for_ (.tp (.cons (.nm 2) (.cons (.nm 3) .nil))) (.enum (.var 0)) (.cons (.if_ (.call 13 (.cons (.var 1) (.cons (.ix (.var 3) (.kI 0)) .nil))) (.cons (.ret (.var 2)) .nil) .nil) .nil)) (.cons (.ret .kN) .nil))
def f28 : FdX := ⟨("first_fit", none), "first_fit", "first_fit", topS 41, ⟨2, 4, none, b28⟩, ["lines", "heap", "number", "line"], ["lines", "heap"], false⟩
/-- 29: through (0 line, 1 heap) -/
def b29 : Cs := (.cons (.ret (.call 12 (.cons (.call 14 (.cons (.var 1) (.cons (.ix (.var 0) (.kI 0)) .nil))) (.cons (.ix (.var 0) (.kI 1)) .nil)))) .nil)
def f29 : FdX := ⟨("through", none), "through", "through", topS 42, ⟨2, 2, none, b29⟩, ["line", "heap"], ["line", "heap"], false⟩
/-- 30: led (0 lines, 1 heap, 2 rest, 3 numbers, 4 number) -/
def b30 : Cs := (.cons (.par 2 3 true (.var 1) (.lst .nil)) (.cons (.asg (.nm 4) (.call 28 (.cons (.var 0) (.cons (.var 2) .nil)))) (.cons (.while_ (.cmp .isNt (.var 4) .kN) (.cons (.ex (.mm .append (.own 3) (.cons (.var 4) .nil))) (.cons (.asg (.nm 2) (.call 29 (.cons (.ix (.var 0) (.var 4)) (.cons (.var 2) .nil)))) (.cons (.asg (.nm 4) (.call 28 (.cons (.var 0) (.cons (.var 2) .nil)))) .nil)))) (.cons (.frz 3) (.cons (.ret (.tup (.cons (.var 2) (.cons (.var 3) .nil)))) .nil)))))
def f30 : FdX := ⟨("led", none), "led", "led", topS 43, ⟨2, 5, none, b30⟩, ["lines", "heap", "rest", "numbers", "number"], ["lines", "heap"], false⟩
/-- 31: rest_of (0 lines, 1 heap) -/
def b31 : Cs := (.cons (.ret (.ix (.call 30 (.cons (.var 0) (.cons (.var 1) .nil))) (.kI 0))) .nil)
def f31 : FdX := ⟨("rest_of", none), "rest_of", "rest_of", topS 44, ⟨2, 2, none, b31⟩, ["lines", "heap"], ["lines", "heap"], false⟩
/-- 32: deeds_of (0 lines, 1 numbers, 2 found, 3 number) -/
def b32 : Cs := (.cons (.asgO 2 (.lst .nil)) (.cons (.for_ (.nm 3) (.seq (.var 1)) (.cons (.ex (.mm .extend (.own 2) (.cons (.ix (.ix (.var 0) (.var 3)) (.kI 2)) .nil))) .nil)) (.cons (.ret (.b1 .tup (.own 2))) .nil)))
def f32 : FdX := ⟨("deeds_of", none), "deeds_of", "deeds_of", topS 45, ⟨2, 4, none, b32⟩, ["lines", "numbers", "found", "number"], ["lines", "numbers"], false⟩
/-- 33: is_whole (0 value) -/
def b33 : Cs := (.cons (.ret (.and (.isi (.var 0) .int) (.not (.isi (.var 0) .bool)))) .nil)
def f33 : FdX := ⟨("is_whole", none), "is_whole", "is_whole", topS 49, ⟨1, 1, none, b33⟩, ["value"], ["value"], false⟩
/-- 34: are_prices (0 value, 1 many, 2 number) -/
def b34 : Cs := (.cons (.ret (.and (.isi (.var 0) .tuple) (.and (.cmp .eq (.b1 .len (.var 0)) (.var 1)) (.b1 .all (.lc [2] (.call 33 (.cons (.var 2) .nil)) (.nm 2) (.seq (.var 0)) .none))))) .nil)
def f34 : FdX := ⟨("are_prices", none), "are_prices", "are_prices", topS 50, ⟨2, 3, none, b34⟩, ["value", "many", "number"], ["value", "many"], false⟩
/-- 35: are_counts (0 value, 1 many, 2 number) -/
def b35 : Cs := (.cons (.ret (.and (.call 34 (.cons (.var 0) (.cons (.var 1) .nil))) (.b1 .all (.lc [2] (.cmp .ge (.var 2) (.kI 0)) (.nm 2) (.seq (.var 0)) .none)))) .nil)
def f35 : FdX := ⟨("are_counts", none), "are_counts", "are_counts", topS 51, ⟨2, 3, none, b35⟩, ["value", "many", "number"], ["value", "many"], false⟩
/-- 36: need_any_prices (0 prices) -/
def b36 : Cs := (.cons (.if_ (.or (.not (.isi (.var 0) .tuple)) (.not (.chn .le .le (.glb 7) (.b1 .len (.var 0)) (.glb 8)))) (.cons (.rais 0 .nil) .nil) .nil) (.cons (.if_ (.not (.call 34 (.cons (.var 0) (.cons (.b1 .len (.var 0)) .nil)))) (.cons (.rais 0 .nil) .nil) .nil) .nil))
def f36 : FdX := ⟨("need_any_prices", none), "need_any_prices", "need_any_prices", topS 52, ⟨1, 1, none, b36⟩, ["prices"], ["prices"], false⟩
/-- 37: need_prices (0 kinds, 1 value) -/
def b37 : Cs := (.cons (.if_ (.not (.call 34 (.cons (.var 1) (.cons (.lenI (.var 0) 0 8) .nil)))) (.cons (.rais 0 .nil) .nil) .nil) .nil)
def f37 : FdX := ⟨("need_prices", none), "need_prices", "need_prices", topS 53, ⟨2, 2, none, b37⟩, ["kinds", "value"], ["kinds", "value"], false⟩
/-- 38: need_heaps (0 prices, 1 heaps, 2 heap) -/
def b38 : Cs := (.cons (.if_ (.not (.b1 .all (.lc [2] (.call 35 (.cons (.var 2) (.cons (.b1 .len (.var 0)) .nil))) (.nm 2) (.seq (.var 1)) .none))) (.cons (.rais 0 .nil) .nil) .nil) .nil)
def f38 : FdX := ⟨("need_heaps", none), "need_heaps", "need_heaps", topS 54, ⟨2, 3, none, b38⟩, ["prices", "heaps", "heap"], ["prices", "heaps"], false⟩
/-- 39: total (0 prices, 1 heap, 2 number, 3 count) -/
def b39 : Cs := (.cons (.ret (.b1 .sum (.lc [2, 3] (.bin .mul (.var 2) (.var 3)) (.tp (.cons (.nm 2) (.cons (.nm 3) .nil))) (.zip true (.var 0) (.var 1)) .none))) .nil)
def f39 : FdX := ⟨("total", none), "total", "total", topS 55, ⟨2, 4, none, b39⟩, ["prices", "heap", "number", "count"], ["prices", "heap"], false⟩
/-- 40: goes_ahead (0 prices, 1 one, 2 two) -/
def b40 : Cs := (.cons (.ret (.cmp .lt (.tup (.cons (.call 39 (.cons (.var 0) (.cons (.var 1) .nil))) (.cons (.var 1) .nil))) (.tup (.cons (.call 39 (.cons (.var 0) (.cons (.var 2) .nil))) (.cons (.var 2) .nil))))) .nil)
def f40 : FdX := ⟨("goes_ahead", none), "goes_ahead", "goes_ahead", topS 56, ⟨3, 3, none, b40⟩, ["prices", "one", "two"], ["prices", "one", "two"], false⟩
/-- 41: price (0 prices, 1 heap) -/
def b41 : Cs := (.cons (.ex (.call 36 (.cons (.var 0) .nil))) (.cons (.ex (.call 38 (.cons (.var 0) (.cons (.lst (.cons (.var 1) .nil)) .nil)))) (.cons (.ret (.call 39 (.cons (.var 0) (.cons (.var 1) .nil)))) .nil)))
def f41 : FdX := ⟨("price", none), "price", "price", topS 57, ⟨2, 2, none, b41⟩, ["prices", "heap"], ["prices", "heap"], false⟩
/-- 42: less (0 prices, 1 one, 2 two) -/
def b42 : Cs := (.cons (.ex (.call 36 (.cons (.var 0) .nil))) (.cons (.ex (.call 38 (.cons (.var 0) (.cons (.lst (.cons (.var 1) (.cons (.var 2) .nil))) .nil)))) (.cons (.ret (.call 40 (.cons (.var 0) (.cons (.var 1) (.cons (.var 2) .nil))))) .nil)))
def f42 : FdX := ⟨("less", none), "less", "less", topS 58, ⟨3, 3, none, b42⟩, ["prices", "one", "two"], ["prices", "one", "two"], false⟩
/-- 43: ordered (0 prices, 1 heaps, 2 found, 3 heap, 4 number) -/
def b43 : Cs := (.cons (.ex (.call 36 (.cons (.var 0) .nil))) (.cons (.ex (.call 38 (.cons (.var 0) (.cons (.var 1) .nil)))) (.cons (.asg (.nm 2) (.lc [3] (.tup (.cons (.call 39 (.cons (.var 0) (.cons (.var 3) .nil))) (.cons (.var 3) .nil))) (.nm 3) (.seq (.var 1)) .none)) (.cons (.ret (.lc [4, 3] (.var 3) (.tp (.cons (.nm 4) (.cons (.nm 3) .nil))) (.seq (.b1 .sorted (.var 2))) .none)) .nil))))
def f43 : FdX := ⟨("ordered", none), "ordered", "ordered", topS 59, ⟨2, 5, none, b43⟩, ["prices", "heaps", "found", "heap", "number"], ["prices", "heaps"], false⟩
/-- 44: need_bound (0 value) -/
def b44 : Cs := (.cons (.if_ (.not (.call 2 (.cons (.var 0) (.cons (.kI 0) (.cons (.glb 3) .nil))))) (.cons (.rais 0 .nil) .nil) .nil) .nil)
def f44 : FdX := ⟨("need_bound", none), "need_bound", "need_bound", topS 61, ⟨1, 1, none, b44⟩, ["value"], ["value"], false⟩
/-- 45: end_of (0 book, 1 heap, 2 deeds, 3 deed) -/
def b45 : Cs := (.cons (.for_ (.nm 3) (.seq (.var 2)) (.cons (.asg (.nm 1) (.ite (.cmp .isN (.var 1) .kN) .kN (.call 26 (.cons (.var 0) (.cons (.var 1) (.cons (.var 3) .nil)))))) .nil)) (.cons (.ret (.var 1)) .nil))
def f45 : FdX := ⟨("end_of", none), "end_of", "end_of", topS 62, ⟨3, 4, none, b45⟩, ["book", "heap", "deeds", "deed"], ["book", "heap", "deeds"], false⟩
/-- 46: is_line (0 book, 1 w, 2 value, 3 head, 4 tail) -/
def b46 : Cs := (.cons (.if_ (.or (.not (.isi (.var 2) .tuple)) (.or (.cmp .ne (.b1 .len (.var 2)) (.kI 3)) (.not (.isi (.ix (.var 2) (.kI 2)) .tuple)))) (.cons (.ret (.kB false)) .nil) .nil) (.cons (.par 3 4 false (.ix (.var 2) (.kI 0)) (.ix (.var 2) (.kI 1))) (.cons (.if_ (.or (.not (.call 4 (.cons (.var 3) (.cons (.lenI (.prop (.var 0) 1 20) 0 8) .nil)))) (.or (.not (.call 4 (.cons (.var 4) (.cons (.lenI (.prop (.var 0) 1 20) 0 8) .nil)))) (.cmp .eq (.var 3) (.var 4)))) (.cons (.ret (.kB false)) .nil) .nil) (.cons (.ret (.and (.cmp .le (.mth (.prop (.var 0) 1 20) 0 11 (.cons (.var 3) .nil)) (.var 1)) (.cmp .eq (.call 45 (.cons (.var 0) (.cons (.var 3) (.cons (.ix (.var 2) (.kI 2)) .nil)))) (.var 4)))) .nil))))
def f46 : FdX := ⟨("is_line", none), "is_line", "is_line", topS 63, ⟨3, 5, none, b46⟩, ["book", "w", "value", "head", "tail"], ["book", "w", "value"], false⟩
/-- 47: first_unlike (0 book, 1 w, 2 lines, 3 number, 4 exchange) -/
def b47 : Cs := (.cons (.for_ (.tp (.cons (.nm 3) (.cons (.nm 4) .nil))) (.enum (.mth (.var 0) 1 21 .nil)) (.cons (.if_ (.and (.cmp .le (.mth (.prop (.var 0) 1 20) 0 11 (.cons (.ix (.var 4) (.kI 1)) .nil)) (.var 1)) (.cmp .ne (.call 31 (.cons (.var 2) (.cons (.ix (.var 4) (.kI 1)) .nil))) (.call 31 (.cons (.var 2) (.cons (.ix (.var 4) (.kI 2)) .nil))))) (.cons (.ret (.var 3)) .nil) .nil) .nil)) (.cons (.ret .kN) .nil))
def f47 : FdX := ⟨("first_unlike", none), "first_unlike", "first_unlike", topS 64, ⟨3, 5, none, b47⟩, ["book", "w", "lines", "number", "exchange"], ["book", "w", "lines"], false⟩
/-- 48: first_crossing (0 kinds, 1 w, 2 lines, 3 j, 4 i, 5 heap) -/
def b48 : Cs := (.cons (.for_ (.tp (.cons (.nm 3) (.cons (.nm 4) .nil))) (.seq (.lc2 [4, 3] (.tup (.cons (.var 3) (.cons (.var 4) .nil))) (.nm 4) (.rng (.kI 0) (.b1 .len (.var 2))) (.nm 3) (.rng (.bin .add (.var 4) (.kI 1)) (.b1 .len (.var 2))))) (.cons (.asg (.nm 5) (.call 15 (.cons (.ix (.ix (.var 2) (.var 4)) (.kI 0)) (.cons (.ix (.ix (.var 2) (.var 3)) (.kI 0)) .nil)))) (.cons (.if_ (.cmp .le (.mth (.var 0) 0 11 (.cons (.var 5) .nil)) (.var 1)) (.cons (.if_ (.cmp .ne (.call 31 (.cons (.var 2) (.cons (.call 29 (.cons (.ix (.var 2) (.var 4)) (.cons (.var 5) .nil))) .nil))) (.call 31 (.cons (.var 2) (.cons (.call 29 (.cons (.ix (.var 2) (.var 3)) (.cons (.var 5) .nil))) .nil)))) (.cons (.ret (.tup (.cons (.var 4) (.cons (.var 3) .nil)))) .nil) .nil) .nil) .nil) .nil))) (.cons (.ret .kN) .nil))
def f48 : FdX := ⟨("first_crossing", none), "first_crossing", "first_crossing", topS 65, ⟨3, 6, none, b48⟩, ["kinds", "w", "lines", "j", "i", "heap"], ["kinds", "w", "lines"], false⟩
/-- 49: judge_list (0 book, 1 prices, 2 w, 3 value, 4 number, 5 line, 6 pair) -/
def b49 : Cs := (.cons (.ex (.call 37 (.cons (.prop (.var 0) 1 20) (.cons (.var 1) .nil)))) (.cons (.ex (.call 44 (.cons (.var 2) .nil))) (.cons (.if_ (.not (.isi (.var 3) .tuple)) (.cons (.ret (.tup (.cons (.kS "form") .nil))) .nil) .nil) (.cons (.for_ (.tp (.cons (.nm 4) (.cons (.nm 5) .nil))) (.enum (.var 3)) (.cons (.if_ (.not (.call 46 (.cons (.var 0) (.cons (.var 2) (.cons (.var 5) .nil))))) (.cons (.ret (.tup (.cons (.kS "line") (.cons (.var 4) .nil)))) .nil) .nil) .nil)) (.cons (.for_ (.tp (.cons (.nm 4) (.cons (.nm 5) .nil))) (.enum (.var 3)) (.cons (.if_ (.not (.call 42 (.cons (.var 1) (.cons (.ix (.var 5) (.kI 1)) (.cons (.ix (.var 5) (.kI 0)) .nil))))) (.cons (.ret (.tup (.cons (.kS "up") (.cons (.var 4) .nil)))) .nil) .nil) .nil)) (.cons (.asg (.nm 4) (.call 47 (.cons (.var 0) (.cons (.var 2) (.cons (.var 3) .nil))))) (.cons (.if_ (.cmp .isNt (.var 4) .kN) (.cons (.ret (.tup (.cons (.kS "exchange") (.cons (.var 4) .nil)))) .nil) .nil) (.cons (.asg (.nm 6) (.call 48 (.cons (.prop (.var 0) 1 20) (.cons (.var 2) (.cons (.var 3) .nil))))) (.cons (.ret (.ite (.cmp .isN (.var 6) .kN) .kN (.tup (.cons (.kS "crossing") (.cons (.ix (.var 6) (.kI 0)) (.cons (.ix (.var 6) (.kI 1)) .nil)))))) .nil)))))))))
def f49 : FdX := ⟨("judge_list", none), "judge_list", "judge_list", topS 66, ⟨4, 7, none, b49⟩, ["book", "prices", "w", "value", "number", "line", "pair"], ["book", "prices", "w", "value"], false⟩
/-- 50: moves (0 book, 1 heap, 2 found, 3 name, 4 left, 5 right) -/
def b50 : Cs := (.cons (.asgO 2 (.lst .nil)) (.cons (.for_ (.tp (.cons (.nm 3) (.cons (.nm 4) (.cons (.nm 5) .nil)))) (.seq (.mth (.var 0) 1 21 .nil)) (.cons (.if_ (.call 13 (.cons (.var 1) (.cons (.var 4) .nil))) (.cons (.ex (.mm .append (.own 2) (.cons (.tup (.cons (.tup (.cons (.var 3) (.cons (.kS "there") .nil))) (.cons (.call 12 (.cons (.call 14 (.cons (.var 1) (.cons (.var 4) .nil))) (.cons (.var 5) .nil))) .nil))) .nil))) .nil) .nil) (.cons (.if_ (.call 13 (.cons (.var 1) (.cons (.var 5) .nil))) (.cons (.ex (.mm .append (.own 2) (.cons (.tup (.cons (.tup (.cons (.var 3) (.cons (.kS "back") .nil))) (.cons (.call 12 (.cons (.call 14 (.cons (.var 1) (.cons (.var 5) .nil))) (.cons (.var 4) .nil))) .nil))) .nil))) .nil) .nil) .nil))) (.cons (.retO 2) .nil)))
def f50 : FdX := ⟨("moves", none), "moves", "moves", topS 68, ⟨2, 6, none, b50⟩, ["book", "heap", "found", "name", "left", "right"], ["book", "heap"], false⟩
/-- 51: spread (0 book, 1 heap, 2 found, 3 waiting, 4 one, 5 deed, 6 later) -/
def b51 : Cs := (.cons (.parF 2 3 true (.d1 true (.var 1) (.tup .nil)) (.lst (.cons (.var 1) .nil))) (.cons (.while_ (.cmo true (.own 3) (.lst .nil)) (.cons (.asg (.nm 4) (.mm .popAt (.own 3) (.cons (.kI 0) .nil))) (.cons (.for_ (.tp (.cons (.nm 5) (.cons (.nm 6) .nil))) (.seq (.call 50 (.cons (.var 0) (.cons (.var 4) .nil)))) (.cons (.if_ (.cmp .nmem (.var 6) (.own 2)) (.cons (.seto (.own 2) (.var 6) (.tup (.star (.dix (.own 2) (.var 4)) (.cons (.var 5) .nil)))) (.cons (.ex (.mm .append (.own 3) (.cons (.var 6) .nil))) .nil)) .nil) .nil)) .nil))) (.cons (.retO 2) .nil)))
def f51 : FdX := ⟨("spread", none), "spread", "spread", topS 69, ⟨2, 7, none, b51⟩, ["book", "heap", "found", "waiting", "one", "deed", "later"], ["book", "heap"], false⟩
/-- 52: find_class (0 book, 1 heap) -/
def b52 : Cs := (.cons (.ret (.b1 .sorted (.b1 .list (.call 51 (.cons (.var 0) (.cons (.var 1) .nil)))))) .nil)
def f52 : FdX := ⟨("find_class", none), "find_class", "find_class", topS 70, ⟨2, 2, none, b52⟩, ["book", "heap"], ["book", "heap"], false⟩
/-- 53: need_light (0 book, 1 heap) -/
def b53 : Cs := (.cons (.if_ (.cmp .gt (.mth (.prop (.var 0) 1 20) 0 10 (.cons (.var 1) .nil)) (.glb 3)) (.cons (.rais 0 .nil) .nil) .nil) .nil)
def f53 : FdX := ⟨("need_light", none), "need_light", "need_light", topS 71, ⟨2, 2, none, b53⟩, ["book", "heap"], ["book", "heap"], false⟩
/-- 54: class_of (0 book, 1 heap) -/
def b54 : Cs := (.cons (.ex (.call 53 (.cons (.var 0) (.cons (.var 1) .nil)))) (.cons (.ret (.call 52 (.cons (.var 0) (.cons (.var 1) .nil)))) .nil))
def f54 : FdX := ⟨("class_of", none), "class_of", "class_of", topS 72, ⟨2, 2, none, b54⟩, ["book", "heap"], ["book", "heap"], false⟩
/-- 55: way (0 book, 1 one, 2 two) -/
def b55 : Cs := (.cons (.ex (.call 53 (.cons (.var 0) (.cons (.var 1) .nil)))) (.cons (.ex (.call 53 (.cons (.var 0) (.cons (.var 2) .nil)))) (.cons (.ret (.mm .dget (.call 51 (.cons (.var 0) (.cons (.var 1) .nil))) (.cons (.var 2) .nil))) .nil)))
def f55 : FdX := ⟨("way", none), "way", "way", topS 73, ⟨3, 3, none, b55⟩, ["book", "one", "two"], ["book", "one", "two"], false⟩
/-- 56: mates_of (0 book, 1 heap, 2 found, 3 waiting, 4 deed, 5 later) -/
def b56 : Cs := (.cons (.parF 2 3 true (.d1 true (.var 1) (.kB true)) (.lst (.cons (.var 1) .nil))) (.cons (.while_ (.cmo true (.own 3) (.lst .nil)) (.cons (.for_ (.tp (.cons (.nm 4) (.cons (.nm 5) .nil))) (.seq (.call 50 (.cons (.var 0) (.cons (.mm .pop (.own 3) .nil) .nil)))) (.cons (.if_ (.cmp .nmem (.var 5) (.own 2)) (.cons (.seto (.own 2) (.var 5) (.kB true)) (.cons (.ex (.mm .append (.own 3) (.cons (.var 5) .nil))) .nil)) .nil) .nil)) .nil)) (.cons (.ret (.b1 .list (.own 2))) .nil)))
def f56 : FdX := ⟨("mates_of", none), "mates_of", "mates_of", topS 75, ⟨2, 6, none, b56⟩, ["book", "heap", "found", "waiting", "deed", "later"], ["book", "heap"], false⟩
/-- 57: way_between (0 book, 1 heap, 2 last, 3 ahead, 4 waiting, 5 one, 6 deed, 7 later, 8 found) -/
def b57 : Cs := (.cons (.parF 3 4 true (.d1 true (.var 1) .kN) (.lst (.cons (.var 1) .nil))) (.cons (.while_ (.cmp .nmem (.var 2) (.own 3)) (.cons (.asg (.nm 5) (.mm .popAt (.own 4) (.cons (.kI 0) .nil))) (.cons (.for_ (.tp (.cons (.nm 6) (.cons (.nm 7) .nil))) (.seq (.call 50 (.cons (.var 0) (.cons (.var 5) .nil)))) (.cons (.if_ (.cmp .nmem (.var 7) (.own 3)) (.cons (.seto (.own 3) (.var 7) (.tup (.cons (.var 5) (.cons (.var 6) .nil)))) (.cons (.ex (.mm .append (.own 4) (.cons (.var 7) .nil))) .nil)) .nil) .nil)) .nil))) (.cons (.asgO 8 (.lst .nil)) (.cons (.while_ (.cmp .isNt (.dix (.own 3) (.var 2)) .kN) (.cons (.asg (.tp (.cons (.nm 2) (.cons (.nm 6) .nil))) (.dix (.own 3) (.var 2))) (.cons (.ex (.mm .append (.own 8) (.cons (.var 6) .nil))) .nil))) (.cons (.ret (.b1 .tup (.rev (.own 8)))) .nil)))))
def f57 : FdX := ⟨("way_between", none), "way_between", "way_between", topS 76, ⟨3, 9, none, b57⟩, ["book", "heap", "last", "ahead", "waiting", "one", "deed", "later", "found"], ["book", "heap", "last"], false⟩
/-- 58: least_of (0 prices, 1 heaps, 2 found, 3 heap) -/
def b58 : Cs := (.cons (.asg (.nm 2) (.ix (.var 1) (.kI 0))) (.cons (.for_ (.nm 3) (.seq (.sl (.var 1) (.some (.kI 1)) .none)) (.cons (.asg (.nm 2) (.ite (.call 40 (.cons (.var 0) (.cons (.var 3) (.cons (.var 2) .nil)))) (.var 3) (.var 2))) .nil)) (.cons (.ret (.var 2)) .nil)))
def f58 : FdX := ⟨("least_of", none), "least_of", "least_of", topS 77, ⟨2, 4, none, b58⟩, ["prices", "heaps", "found", "heap"], ["prices", "heaps"], false⟩
/-- 59: reduced_list (0 book, 1 prices, 2 w, 3 found, 4 least, 5 weight, 6 heap, 7 mates, 8 low, 9 line, 10 mate) -/
def b59 : Cs := (.cons (.parF 3 4 true (.lst .nil) (.dct0 true)) (.cons (.for_ (.nm 5) (.rng (.kI 1) (.bin .add (.var 2) (.kI 1))) (.cons (.for_ (.nm 6) (.seq (.call 16 (.cons (.prop (.var 0) 1 20) (.cons (.var 5) .nil)))) (.cons (.if_ (.not (.b1 .any (.lc [9] (.call 13 (.cons (.var 6) (.cons (.ix (.var 9) (.kI 0)) .nil))) (.nm 9) (.ownl 3) .none))) (.cons (.if_ (.cmp .nmem (.var 6) (.own 4)) (.cons (.asg (.nm 7) (.call 56 (.cons (.var 0) (.cons (.var 6) .nil)))) (.cons (.asg (.nm 8) (.call 58 (.cons (.var 1) (.cons (.var 7) .nil)))) (.cons (.ex (.mm .upd (.own 4) (.cons (.dc true [10] (.var 10) (.var 8) (.nm 10) (.seq (.var 7)) .none) .nil))) .nil))) .nil) (.cons (.if_ (.cmp .ne (.dix (.own 4) (.var 6)) (.var 6)) (.cons (.ex (.mm .append (.own 3) (.cons (.tup (.cons (.var 6) (.cons (.dix (.own 4) (.var 6)) (.cons (.call 57 (.cons (.var 0) (.cons (.var 6) (.cons (.dix (.own 4) (.var 6)) .nil)))) .nil)))) .nil))) .nil) .nil) .nil)) .nil) .nil)) .nil)) (.cons (.ret (.b1 .tup (.own 3))) .nil)))
def f59 : FdX := ⟨("reduced_list", none), "reduced_list", "reduced_list", topS 78, ⟨3, 11, none, b59⟩, ["book", "prices", "w", "found", "least", "weight", "heap", "mates", "low", "line", "mate"], ["book", "prices", "w"], false⟩
/-- 60: complete (0 book, 1 prices, 2 w) -/
def b60 : Cs := (.cons (.ex (.call 37 (.cons (.prop (.var 0) 1 20) (.cons (.var 1) .nil)))) (.cons (.ex (.call 44 (.cons (.var 2) .nil))) (.cons (.ret (.call 59 (.cons (.var 0) (.cons (.var 1) (.cons (.var 2) .nil))))) .nil)))
def f60 : FdX := ⟨("complete", none), "complete", "complete", topS 79, ⟨3, 3, none, b60⟩, ["book", "prices", "w"], ["book", "prices", "w"], false⟩
/-- 61: without_rounds (0 book, 1 heap, 2 deeds, 3 heaps, 4 deed, 5 last, 6 found, 7 place, 8 one) -/
def b61 : Cs := (.cons (.asgO 3 (.lst (.cons (.var 1) .nil))) (.cons (.for_ (.nm 4) (.seq (.var 2)) (.cons (.ex (.mm .append (.own 3) (.cons (.call 26 (.cons (.var 0) (.cons (.ix (.own 3) (.neg (.kI 1))) (.cons (.var 4) .nil)))) .nil))) .nil)) (.cons (.frz 3) (.cons (.asg (.nm 5) (.dc true [7, 8] (.var 8) (.var 7) (.tp (.cons (.nm 7) (.cons (.nm 8) .nil))) (.enum (.var 3)) .none)) (.cons (.parF 6 7 false (.lst .nil) (.dix (.var 5) (.var 1))) (.cons (.while_ (.cmp .lt (.var 7) (.b1 .len (.var 2))) (.cons (.ex (.mm .append (.own 6) (.cons (.ix (.var 2) (.var 7)) .nil))) (.cons (.asg (.nm 7) (.dix (.var 5) (.ix (.var 3) (.bin .add (.var 7) (.kI 1))))) .nil))) (.cons (.ret (.b1 .tup (.own 6))) .nil)))))))
def f61 : FdX := ⟨("without_rounds", none), "without_rounds", "without_rounds", topS 80, ⟨3, 9, none, b61⟩, ["book", "heap", "deeds", "heaps", "deed", "last", "found", "place", "one"], ["book", "heap", "deeds"], false⟩
/-- 62: need_heap (0 book, 1 heap, 2 most) -/
def b62 : Cs := (.cons (.if_ (.cmp .gt (.mth (.prop (.var 0) 1 20) 0 10 (.cons (.var 1) .nil)) (.var 2)) (.cons (.rais 0 .nil) .nil) .nil) .nil)
def f62 : FdX := ⟨("need_heap", none), "need_heap", "need_heap", topS 83, ⟨3, 3, none, b62⟩, ["book", "heap", "most"], ["book", "heap", "most"], false⟩
/-- 63: like_heaps (0 book, 1 prices, 2 heap) -/
def b63 : Cs := (.cons (.ex (.call 37 (.cons (.prop (.var 0) 1 20) (.cons (.var 1) .nil)))) (.cons (.ex (.call 62 (.cons (.var 0) (.cons (.var 2) (.cons (.glb 9) .nil))))) (.cons (.ret (.call 54 (.cons (.var 0) (.cons (.var 2) .nil)))) .nil)))
def f63 : FdX := ⟨("like_heaps", none), "like_heaps", "like_heaps", topS 84, ⟨3, 3, none, b63⟩, ["book", "prices", "heap"], ["book", "prices", "heap"], false⟩
/-- 64: least_like (0 book, 1 prices, 2 heap, 3 least) -/
def b64 : Cs := (.cons (.asg (.nm 3) (.ix (.call 43 (.cons (.var 1) (.cons (.call 63 (.cons (.var 0) (.cons (.var 1) (.cons (.var 2) .nil)))) .nil))) (.kI 0))) (.cons (.ret (.tup (.cons (.var 3) (.cons (.b1 .tup (.call 55 (.cons (.var 0) (.cons (.var 2) (.cons (.var 3) .nil))))) .nil)))) .nil))
def f64 : FdX := ⟨("least_like", none), "least_like", "least_like", topS 85, ⟨3, 4, none, b64⟩, ["book", "prices", "heap", "least"], ["book", "prices", "heap"], false⟩
/-- 65: price_gap (0 book, 1 prices, 2 heap, 3 least) -/
def b65 : Cs := (.cons (.asg (.nm 3) (.ix (.call 43 (.cons (.var 1) (.cons (.call 63 (.cons (.var 0) (.cons (.var 1) (.cons (.var 2) .nil)))) .nil))) (.kI 0))) (.cons (.ret (.bin .sub (.call 41 (.cons (.var 1) (.cons (.var 2) .nil))) (.call 41 (.cons (.var 1) (.cons (.var 3) .nil))))) .nil))
def f65 : FdX := ⟨("price_gap", none), "price_gap", "price_gap", topS 86, ⟨3, 4, none, b65⟩, ["book", "prices", "heap", "least"], ["book", "prices", "heap"], false⟩
/-- 66: cheapest_like (0 book, 1 prices, 2 heap, 3 heaps, 4 least, 5 one) -/
def b66 : Cs := (.cons (.asg (.nm 3) (.call 63 (.cons (.var 0) (.cons (.var 1) (.cons (.var 2) .nil))))) (.cons (.asg (.nm 4) (.b1 .min (.lc [5] (.call 41 (.cons (.var 1) (.cons (.var 5) .nil))) (.nm 5) (.seq (.var 3)) .none))) (.cons (.ret (.lc [5] (.var 5) (.nm 5) (.seq (.var 3)) (.some (.cmp .eq (.call 41 (.cons (.var 1) (.cons (.var 5) .nil))) (.var 4))))) .nil)))
def f66 : FdX := ⟨("cheapest_like", none), "cheapest_like", "cheapest_like", topS 87, ⟨3, 6, none, b66⟩, ["book", "prices", "heap", "heaps", "least", "one"], ["book", "prices", "heap"], false⟩
/-- 67: ranked (0 book, 1 prices, 2 heap) -/
def b67 : Cs := (.cons (.ret (.call 43 (.cons (.var 1) (.cons (.call 63 (.cons (.var 0) (.cons (.var 1) (.cons (.var 2) .nil)))) .nil)))) .nil)
def f67 : FdX := ⟨("ranked", none), "ranked", "ranked", topS 88, ⟨3, 3, none, b67⟩, ["book", "prices", "heap"], ["book", "prices", "heap"], false⟩
/-- 68: like_by (0 book, 1 prices, 2 w, 3 one, 4 two, 5 lines, 6 first, 7 second, 8 back) -/
def b68 : Cs := (.cons (.ex (.call 37 (.cons (.prop (.var 0) 1 20) (.cons (.var 1) .nil)))) (.cons (.ex (.call 44 (.cons (.var 2) .nil))) (.cons (.ex (.call 62 (.cons (.var 0) (.cons (.var 3) (.cons (.var 2) .nil))))) (.cons (.ex (.call 62 (.cons (.var 0) (.cons (.var 4) (.cons (.var 2) .nil))))) (.cons (.asg (.nm 5) (.call 60 (.cons (.var 0) (.cons (.var 1) (.cons (.var 2) .nil))))) (.cons (.par 6 7 false (.call 30 (.cons (.var 5) (.cons (.var 3) .nil))) (.call 30 (.cons (.var 5) (.cons (.var 4) .nil)))) (.cons (.if_ (.cmp .ne (.ix (.var 6) (.kI 0)) (.ix (.var 7) (.kI 0))) (.cons (.ret (.tup (.cons (.kS "unlike") (.cons (.ix (.var 6) (.kI 0)) (.cons (.ix (.var 7) (.kI 0)) .nil))))) .nil) .nil) (.cons (.asg (.nm 8) (.call 27 (.cons (.b1 .list (.call 32 (.cons (.var 5) (.cons (.ix (.var 7) (.kI 1)) .nil)))) .nil))) (.cons (.ret (.tup (.cons (.kS "like") (.cons (.call 61 (.cons (.var 0) (.cons (.var 3) (.cons (.bin .add (.b1 .list (.call 32 (.cons (.var 5) (.cons (.ix (.var 6) (.kI 1)) .nil)))) (.b1 .list (.var 8))) .nil)))) .nil)))) .nil)))))))))
def f68 : FdX := ⟨("like_by", none), "like_by", "like_by", topS 89, ⟨5, 9, none, b68⟩, ["book", "prices", "w", "one", "two", "lines", "first", "second", "back"], ["book", "prices", "w", "one", "two"], false⟩
/-- 69: rests (0 kinds, 1 lines, 2 weight, 3 heap, 4 line) -/
def b69 : Cs := (.cons (.ex (.call 44 (.cons (.var 2) .nil))) (.cons (.ret (.lc [3] (.var 3) (.nm 3) (.seq (.call 16 (.cons (.var 0) (.cons (.var 2) .nil)))) (.some (.not (.b1 .any (.lc [4] (.call 13 (.cons (.var 3) (.cons (.ix (.var 4) (.kI 0)) .nil))) (.nm 4) (.seq (.var 1)) .none)))))) .nil))
def f69 : FdX := ⟨("rests", none), "rests", "rests", topS 90, ⟨3, 5, none, b69⟩, ["kinds", "lines", "weight", "heap", "line"], ["kinds", "lines", "weight"], false⟩
/-- 70: rest_counts (0 kinds, 1 lines, 2 w, 3 weight) -/
def b70 : Cs := (.cons (.ex (.call 44 (.cons (.var 2) .nil))) (.cons (.ret (.lc [3] (.b1 .len (.call 69 (.cons (.var 0) (.cons (.var 1) (.cons (.var 3) .nil))))) (.nm 3) (.rng (.kI 0) (.bin .add (.var 2) (.kI 1))) .none)) .nil))
def f70 : FdX := ⟨("rest_counts", none), "rest_counts", "rest_counts", topS 91, ⟨3, 4, none, b70⟩, ["kinds", "lines", "w", "weight"], ["kinds", "lines", "w"], false⟩
/-- 71: need_answer (0 book, 1 prices, 2 w, 3 lines, 4 heap) -/
def b71 : Cs := (.cons (.ex (.call 37 (.cons (.prop (.var 0) 1 20) (.cons (.var 1) .nil)))) (.cons (.ex (.call 44 (.cons (.var 2) .nil))) (.cons (.if_ (.cmp .isNt (.call 49 (.cons (.var 0) (.cons (.var 1) (.cons (.var 2) (.cons (.var 3) .nil))))) .kN) (.cons (.rais 0 .nil) .nil) .nil) (.cons (.ex (.call 62 (.cons (.var 0) (.cons (.var 4) (.cons (.var 2) .nil))))) .nil))))
def f71 : FdX := ⟨("need_answer", none), "need_answer", "need_answer", topS 92, ⟨5, 5, none, b71⟩, ["book", "prices", "w", "lines", "heap"], ["book", "prices", "w", "lines", "heap"], false⟩
/-- 72: answer_by (0 book, 1 prices, 2 w, 3 lines, 4 heap, 5 rest, 6 numbers) -/
def b72 : Cs := (.cons (.ex (.call 71 (.cons (.var 0) (.cons (.var 1) (.cons (.var 2) (.cons (.var 3) (.cons (.var 4) .nil))))))) (.cons (.asg (.tp (.cons (.nm 5) (.cons (.nm 6) .nil))) (.call 30 (.cons (.var 3) (.cons (.var 4) .nil)))) (.cons (.ret (.tup (.cons (.var 5) (.cons (.call 61 (.cons (.var 0) (.cons (.var 4) (.cons (.call 32 (.cons (.var 3) (.cons (.var 6) .nil))) .nil)))) .nil)))) .nil)))
def f72 : FdX := ⟨("answer_by", none), "answer_by", "answer_by", topS 93, ⟨5, 7, none, b72⟩, ["book", "prices", "w", "lines", "heap", "rest", "numbers"], ["book", "prices", "w", "lines", "heap"], false⟩
/-- 73: judge_answer (0 book, 1 prices, 2 w, 3 lines, 4 heap, 5 value) -/
def b73 : Cs := (.cons (.ex (.call 71 (.cons (.var 0) (.cons (.var 1) (.cons (.var 2) (.cons (.var 3) (.cons (.var 4) .nil))))))) (.cons (.if_ (.or (.not (.isi (.var 5) .tuple)) (.or (.cmp .ne (.b1 .len (.var 5)) (.kI 2)) (.not (.call 4 (.cons (.ix (.var 5) (.kI 0)) (.cons (.lenI (.prop (.var 0) 1 20) 0 8) .nil)))))) (.cons (.ret (.kB false)) .nil) .nil) (.cons (.if_ (.or (.not (.isi (.ix (.var 5) (.kI 1)) .tuple)) (.cmp .ne (.call 45 (.cons (.var 0) (.cons (.var 4) (.cons (.ix (.var 5) (.kI 1)) .nil)))) (.ix (.var 5) (.kI 0)))) (.cons (.ret (.kB false)) .nil) .nil) (.cons (.ret (.cmp .eq (.call 31 (.cons (.var 3) (.cons (.ix (.var 5) (.kI 0)) .nil))) (.ix (.var 5) (.kI 0)))) .nil))))
def f73 : FdX := ⟨("judge_answer", none), "judge_answer", "judge_answer", topS 94, ⟨6, 6, none, b73⟩, ["book", "prices", "w", "lines", "heap", "value"], ["book", "prices", "w", "lines", "heap", "value"], false⟩
/-- 74: _law_pairs_right (0 _law_kinds, 1 _law_book, 2 _law_there, 3 _law_back, 4 _law_told, 5 _law_lines, 6 _law_prices, 7 _law_line) -/
def b74 : Cs := (.cons (.asg (.tp (.cons (.nm 2) (.cons (.nm 3) .nil))) (.tup (.cons (.tup (.cons (.kS "x") (.cons (.kS "there") .nil))) (.cons (.tup (.cons (.kS "x") (.cons (.kS "back") .nil))) .nil)))) (.cons (.if_ (.or (.cmp .ne (.call 64 (.cons (.var 1) (.cons (.tup (.cons (.kI 0) (.cons (.kI 1) .nil))) (.cons (.tup (.cons (.kI 0) (.cons (.kI 2) .nil))) .nil)))) (.tup (.cons (.tup (.cons (.kI 2) (.cons (.kI 0) .nil))) (.cons (.tup (.cons (.var 3) .nil)) .nil)))) (.cmp .ne (.call 64 (.cons (.var 1) (.cons (.tup (.cons (.kI 0) (.cons (.kI 0) .nil))) (.cons (.tup (.cons (.kI 2) (.cons (.kI 0) .nil))) .nil)))) (.tup (.cons (.tup (.cons (.kI 0) (.cons (.kI 2) .nil))) (.cons (.tup (.cons (.var 2) .nil)) .nil))))) (.cons (.ret (.kB false)) .nil) .nil) (.cons (.if_ (.or (.cmp .ne (.call 64 (.cons (.var 1) (.cons (.tup (.cons (.kI 3) (.cons (.kI 1) .nil))) (.cons (.tup (.cons (.kI 4) (.cons (.kI 0) .nil))) .nil)))) (.tup (.cons (.tup (.cons (.kI 0) (.cons (.kI 4) .nil))) (.cons (.tup (.cons (.var 2) (.cons (.var 2) .nil))) .nil)))) (.cmp .ne (.call 64 (.cons (.var 1) (.cons (.tup (.cons (.kI 3) (.cons (.kI 1) .nil))) (.cons (.tup (.cons (.kI 1) (.cons (.kI 1) .nil))) .nil)))) (.tup (.cons (.tup (.cons (.kI 1) (.cons (.kI 1) .nil))) (.cons (.tup .nil) .nil))))) (.cons (.ret (.kB false)) .nil) .nil) (.cons (.if_ (.or (.cmp .ne (.call 67 (.cons (.var 1) (.cons (.tup (.cons (.kI 1) (.cons (.kI 1) .nil))) (.cons (.tup (.cons (.kI 4) (.cons (.kI 0) .nil))) .nil)))) (.lst (.cons (.tup (.cons (.kI 0) (.cons (.kI 4) .nil))) (.cons (.tup (.cons (.kI 2) (.cons (.kI 2) .nil))) (.cons (.tup (.cons (.kI 4) (.cons (.kI 0) .nil))) .nil))))) (.cmp .ne (.call 67 (.cons (.var 1) (.cons (.tup (.cons (.neg (.kI 1)) (.cons (.kI 0) .nil))) (.cons (.tup (.cons (.kI 0) (.cons (.kI 3) .nil))) .nil)))) (.lst (.cons (.tup (.cons (.kI 2) (.cons (.kI 1) .nil))) (.cons (.tup (.cons (.kI 0) (.cons (.kI 3) .nil))) .nil))))) (.cons (.ret (.kB false)) .nil) .nil) (.cons (.asg (.nm 4) (.lc [6] (.call 66 (.cons (.var 1) (.cons (.var 6) (.cons (.tup (.cons (.kI 4) (.cons (.kI 0) .nil))) .nil)))) (.nm 6) (.seq (.tup (.cons (.tup (.cons (.kI 1) (.cons (.kI 1) .nil))) (.cons (.tup (.cons (.kI 3) (.cons (.kI 1) .nil))) (.cons (.tup (.cons (.kI 0) (.cons (.kI 0) .nil))) .nil))))) .none)) (.cons (.if_ (.cmp .ne (.var 4) (.lst (.cons (.lst (.cons (.tup (.cons (.kI 0) (.cons (.kI 4) .nil))) (.cons (.tup (.cons (.kI 2) (.cons (.kI 2) .nil))) (.cons (.tup (.cons (.kI 4) (.cons (.kI 0) .nil))) .nil)))) (.cons (.lst (.cons (.tup (.cons (.kI 0) (.cons (.kI 4) .nil))) .nil)) (.cons (.lst (.cons (.tup (.cons (.kI 0) (.cons (.kI 4) .nil))) (.cons (.tup (.cons (.kI 2) (.cons (.kI 2) .nil))) (.cons (.tup (.cons (.kI 4) (.cons (.kI 0) .nil))) .nil)))) .nil))))) (.cons (.ret (.kB false)) .nil) .nil) (.cons (.if_ (.cmp .ne (.lc [6] (.call 65 (.cons (.var 1) (.cons (.var 6) (.cons (.tup (.cons (.kI 4) (.cons (.kI 0) .nil))) .nil)))) (.nm 6) (.seq (.tup (.cons (.tup (.cons (.kI 3) (.cons (.kI 1) .nil))) (.cons (.tup (.cons (.kI 1) (.cons (.kI 3) .nil))) (.cons (.tup (.cons (.neg (.kI 2)) (.cons (.kI 1) .nil))) .nil))))) .none) (.lst (.cons (.kI 8) (.cons (.kI 0) (.cons (.kI 0) .nil))))) (.cons (.ret (.kB false)) .nil) .nil) (.cons (.if_ (.cmp .ne (.call 68 (.cons (.var 1) (.cons (.tup (.cons (.kI 3) (.cons (.kI 1) .nil))) (.cons (.kI 4) (.cons (.tup (.cons (.kI 4) (.cons (.kI 0) .nil))) (.cons (.tup (.cons (.kI 2) (.cons (.kI 2) .nil))) .nil)))))) (.tup (.cons (.kS "like") (.cons (.tup (.cons (.var 2) .nil)) .nil)))) (.cons (.ret (.kB false)) .nil) .nil) (.cons (.if_ (.cmp .ne (.call 68 (.cons (.var 1) (.cons (.tup (.cons (.kI 3) (.cons (.kI 1) .nil))) (.cons (.kI 4) (.cons (.tup (.cons (.kI 4) (.cons (.kI 0) .nil))) (.cons (.tup (.cons (.kI 3) (.cons (.kI 1) .nil))) .nil)))))) (.tup (.cons (.kS "unlike") (.cons (.tup (.cons (.kI 0) (.cons (.kI 4) .nil))) (.cons (.tup (.cons (.kI 1) (.cons (.kI 3) .nil))) .nil))))) (.cons (.ret (.kB false)) .nil) .nil) (.cons (.if_ (.cmp .ne (.call 68 (.cons (.var 1) (.cons (.tup (.cons (.kI 3) (.cons (.kI 1) .nil))) (.cons (.kI 3) (.cons (.tup (.cons (.kI 1) (.cons (.kI 2) .nil))) (.cons (.tup (.cons (.kI 1) (.cons (.kI 2) .nil))) .nil)))))) (.tup (.cons (.kS "like") (.cons (.tup .nil) .nil)))) (.cons (.ret (.kB false)) .nil) .nil) (.cons (.if_ (.cmp .ne (.call 68 (.cons (.var 1) (.cons (.tup (.cons (.kI 1) (.cons (.kI 3) .nil))) (.cons (.kI 3) (.cons (.tup (.cons (.kI 0) (.cons (.kI 3) .nil))) (.cons (.tup (.cons (.kI 2) (.cons (.kI 1) .nil))) .nil)))))) (.tup (.cons (.kS "like") (.cons (.tup (.cons (.var 3) .nil)) .nil)))) (.cons (.ret (.kB false)) .nil) .nil) (.cons (.if_ (.cmp .ne (.call 68 (.cons (.var 1) (.cons (.tup (.cons (.kI 3) (.cons (.kI 1) .nil))) (.cons (.kI 8) (.cons (.tup (.cons (.kI 8) (.cons (.kI 0) .nil))) (.cons (.tup (.cons (.kI 0) (.cons (.kI 8) .nil))) .nil)))))) (.tup (.cons (.kS "like") (.cons (.bin .mul (.tup (.cons (.var 2) .nil)) (.kI 4)) .nil)))) (.cons (.ret (.kB false)) .nil) .nil) (.cons (.if_ (.cmp .ne (.call 72 (.cons (.var 1) (.cons (.tup (.cons (.kI 3) (.cons (.kI 1) .nil))) (.cons (.kI 8) (.cons (.call 60 (.cons (.var 1) (.cons (.tup (.cons (.kI 3) (.cons (.kI 1) .nil))) (.cons (.kI 8) .nil)))) (.cons (.tup (.cons (.kI 8) (.cons (.kI 0) .nil))) .nil)))))) (.tup (.cons (.tup (.cons (.kI 0) (.cons (.kI 8) .nil))) (.cons (.bin .mul (.tup (.cons (.var 2) .nil)) (.kI 4)) .nil)))) (.cons (.ret (.kB false)) .nil) .nil) (.cons (.asg (.nm 5) (.call 60 (.cons (.var 1) (.cons (.tup (.cons (.kI 3) (.cons (.kI 1) .nil))) (.cons (.kI 4) .nil))))) (.cons (.if_ (.or (.cmp .ne (.lc [7] (.sl (.var 7) .none (.some (.kI 2))) (.nm 7) (.seq (.var 5)) .none) (.lst (.cons (.tup (.cons (.tup (.cons (.kI 2) (.cons (.kI 0) .nil))) (.cons (.tup (.cons (.kI 0) (.cons (.kI 2) .nil))) .nil))) .nil))) (.cmp .ne (.call 70 (.cons (.var 0) (.cons (.var 5) (.cons (.kI 4) .nil)))) (.lst (.cons (.kI 1) (.cons (.kI 2) (.cons (.kI 2) (.cons (.kI 2) (.cons (.kI 2) .nil)))))))) (.cons (.ret (.kB false)) .nil) .nil) (.cons (.if_ (.or (.cmp .ne (.call 69 (.cons (.var 0) (.cons (.var 5) (.cons (.kI 3) .nil)))) (.lst (.cons (.tup (.cons (.kI 0) (.cons (.kI 3) .nil))) (.cons (.tup (.cons (.kI 1) (.cons (.kI 2) .nil))) .nil)))) (.cmp .ne (.call 69 (.cons (.var 0) (.cons (.tup .nil) (.cons (.kI 1) .nil)))) (.lst (.cons (.tup (.cons (.kI 0) (.cons (.kI 1) .nil))) (.cons (.tup (.cons (.kI 1) (.cons (.kI 0) .nil))) .nil))))) (.cons (.ret (.kB false)) .nil) .nil) (.cons (.ret (.cmp .eq (.call 72 (.cons (.var 1) (.cons (.tup (.cons (.kI 3) (.cons (.kI 1) .nil))) (.cons (.kI 4) (.cons (.var 5) (.cons (.tup (.cons (.kI 3) (.cons (.kI 0) .nil))) .nil)))))) (.tup (.cons (.tup (.cons (.kI 1) (.cons (.kI 2) .nil))) (.cons (.tup (.cons (.var 2) .nil)) .nil))))) .nil)))))))))))))))))
def f74 : FdX := ⟨("_law_pairs_right", none), "_law_pairs_right", "_law_pairs_right", topS 96, ⟨2, 8, none, b74⟩, ["_law_kinds", "_law_book", "_law_there", "_law_back", "_law_told", "_law_lines", "_law_prices", "_law_line"], ["_law_kinds", "_law_book"], false⟩
/-- 75: _law_crossing_right (0 _law_kinds, 1 _law_book, 2 _law_prices, 3 _law_lines, 4 _law_due, 5 _law_deeds, 6 _law_long, 7 _law_rows, 8 _law_told, 9 _law_line, 10 _law_some, 11 _law_row) -/
def b75 : Cs := (.cons (.asg (.nm 2) (.tup (.cons (.kI 5) (.cons (.kI 1) (.cons (.kI 1) .nil))))) (.cons (.asg (.nm 3) (.call 60 (.cons (.var 1) (.cons (.var 2) (.cons (.kI 3) .nil))))) (.cons (.asg (.nm 4) (.lst (.cons (.tup (.cons (.tup (.cons (.kI 1) (.cons (.kI 0) (.cons (.kI 1) .nil)))) (.cons (.tup (.cons (.kI 0) (.cons (.kI 2) (.cons (.kI 0) .nil)))) .nil))) (.cons (.tup (.cons (.tup (.cons (.kI 1) (.cons (.kI 1) (.cons (.kI 0) .nil)))) (.cons (.tup (.cons (.kI 0) (.cons (.kI 0) (.cons (.kI 2) .nil)))) .nil))) (.cons (.tup (.cons (.tup (.cons (.kI 0) (.cons (.kI 3) (.cons (.kI 0) .nil)))) (.cons (.tup (.cons (.kI 0) (.cons (.kI 0) (.cons (.kI 3) .nil)))) .nil))) .nil))))) (.cons (.if_ (.or (.cmp .ne (.lc [9] (.sl (.var 9) .none (.some (.kI 2))) (.nm 9) (.seq (.var 3)) .none) (.var 4)) (.cmp .ne (.call 70 (.cons (.var 0) (.cons (.var 3) (.cons (.kI 3) .nil)))) (.lst (.cons (.kI 1) (.cons (.kI 3) (.cons (.kI 4) (.cons (.kI 4) .nil))))))) (.cons (.ret (.kB false)) .nil) .nil) (.cons (.asg (.nm 5) (.tup (.cons (.tup (.cons (.kS "q") (.cons (.kS "back") .nil))) (.cons (.tup (.cons (.kS "p") (.cons (.kS "there") .nil))) .nil)))) (.cons (.if_ (.or (.cmp .ne (.call 64 (.cons (.var 1) (.cons (.var 2) (.cons (.tup (.cons (.kI 0) (.cons (.kI 3) (.cons (.kI 0) .nil)))) .nil)))) (.tup (.cons (.tup (.cons (.kI 0) (.cons (.kI 0) (.cons (.kI 3) .nil)))) (.cons (.var 5) .nil)))) (.cmp .ne (.ix (.ix (.var 3) (.kI 2)) (.kI 2)) (.var 5))) (.cons (.ret (.kB false)) .nil) .nil) (.cons (.if_ (.or (.cmp .ne (.call 67 (.cons (.var 1) (.cons (.var 2) (.cons (.tup (.cons (.kI 1) (.cons (.kI 1) (.cons (.kI 1) .nil)))) .nil)))) (.lst (.cons (.tup (.cons (.kI 0) (.cons (.kI 0) (.cons (.kI 3) .nil)))) (.cons (.tup (.cons (.kI 0) (.cons (.kI 3) (.cons (.kI 0) .nil)))) (.cons (.tup (.cons (.kI 1) (.cons (.kI 1) (.cons (.kI 1) .nil)))) .nil))))) (.cmp .ne (.call 65 (.cons (.var 1) (.cons (.var 2) (.cons (.tup (.cons (.kI 2) (.cons (.kI 1) (.cons (.kI 0) .nil)))) .nil)))) (.kI 8))) (.cons (.ret (.kB false)) .nil) .nil) (.cons (.if_ (.cmp .ne (.call 66 (.cons (.var 1) (.cons (.var 2) (.cons (.tup (.cons (.kI 1) (.cons (.kI 1) (.cons (.kI 1) .nil)))) .nil)))) (.lst (.cons (.tup (.cons (.kI 0) (.cons (.kI 0) (.cons (.kI 3) .nil)))) (.cons (.tup (.cons (.kI 0) (.cons (.kI 3) (.cons (.kI 0) .nil)))) .nil)))) (.cons (.ret (.kB false)) .nil) .nil) (.cons (.if_ (.cmp .ne (.call 68 (.cons (.var 1) (.cons (.var 2) (.cons (.kI 3) (.cons (.tup (.cons (.kI 2) (.cons (.kI 1) (.cons (.kI 0) .nil)))) (.cons (.tup (.cons (.kI 0) (.cons (.kI 2) (.cons (.kI 1) .nil)))) .nil)))))) (.tup (.cons (.kS "like") (.cons (.tup (.cons (.tup (.cons (.kS "p") (.cons (.kS "there") .nil))) (.cons (.tup (.cons (.kS "q") (.cons (.kS "there") .nil))) .nil))) .nil)))) (.cons (.ret (.kB false)) .nil) .nil) (.cons (.asg (.nm 6) (.tup (.cons (.tup (.cons (.kS "p") (.cons (.kS "there") .nil))) (.cons (.tup (.cons (.kS "p") (.cons (.kS "back") .nil))) (.cons (.tup (.cons (.kS "p") (.cons (.kS "there") .nil))) .nil))))) (.cons (.asg (.nm 7) (.lc [10] (.tup (.cons (.tup (.cons (.kI 0) (.cons (.kI 0) (.cons (.kI 3) .nil)))) (.cons (.var 10) .nil))) (.nm 10) (.seq (.tup (.cons (.var 6) (.cons (.sl (.var 6) .none (.some (.kI 1))) (.cons (.sl (.var 6) .none (.some (.kI 2))) (.cons (.tup .nil) .nil)))))) .none)) (.cons (.asg (.nm 8) (.lc [11] (.call 73 (.cons (.var 1) (.cons (.var 2) (.cons (.kI 3) (.cons (.var 3) (.cons (.tup (.cons (.kI 1) (.cons (.kI 1) (.cons (.kI 1) .nil)))) (.cons (.var 11) .nil))))))) (.nm 11) (.seq (.var 7)) .none)) (.cons (.ret (.and (.cmp .eq (.var 8) (.lst (.cons (.kB true) (.cons (.kB true) (.cons (.kB false) (.cons (.kB false) .nil)))))) (.cmp .eq (.call 69 (.cons (.var 0) (.cons (.var 3) (.cons (.kI 2) .nil)))) (.lst (.cons (.tup (.cons (.kI 0) (.cons (.kI 0) (.cons (.kI 2) .nil)))) (.cons (.tup (.cons (.kI 0) (.cons (.kI 1) (.cons (.kI 1) .nil)))) (.cons (.tup (.cons (.kI 0) (.cons (.kI 2) (.cons (.kI 0) .nil)))) (.cons (.tup (.cons (.kI 2) (.cons (.kI 0) (.cons (.kI 0) .nil)))) .nil)))))))) .nil)))))))))))))
def f75 : FdX := ⟨("_law_crossing_right", none), "_law_crossing_right", "_law_crossing_right", topS 97, ⟨2, 12, none, b75⟩, ["_law_kinds", "_law_book", "_law_prices", "_law_lines", "_law_due", "_law_deeds", "_law_long", "_law_rows", "_law_told", "_law_line", "_law_some", "_law_row"], ["_law_kinds", "_law_book"], false⟩
/-- 76: law (0 _law_script, 1 _law_two, 2 _law_three) -/
def b76 : Cs := (.cons (.par 1 2 false (.mk 5 (.cons (.lst (.cons (.kS "a") (.cons (.kS "b") .nil))) (.cons (.lst (.cons (.kI 1) (.cons (.kI 1) .nil))) .nil))) (.mk 5 (.cons (.lst (.cons (.kS "a") (.cons (.kS "b") (.cons (.kS "c") .nil)))) (.cons (.lst (.cons (.kI 1) (.cons (.kI 1) (.cons (.kI 1) .nil)))) .nil)))) (.cons (.if_ (.not (.call 74 (.cons (.var 1) (.cons (.mk 19 (.cons (.var 1) (.cons (.lst (.cons (.tup (.cons (.kS "x") (.cons (.tup (.cons (.kI 2) (.cons (.kI 0) .nil))) (.cons (.tup (.cons (.kI 0) (.cons (.kI 2) .nil))) .nil)))) .nil)) .nil))) .nil)))) (.cons (.ret (.kB false)) .nil) .nil) (.cons (.ret (.call 75 (.cons (.var 2) (.cons (.mk 19 (.cons (.var 2) (.cons (.lst (.cons (.tup (.cons (.kS "p") (.cons (.tup (.cons (.kI 1) (.cons (.kI 1) (.cons (.kI 0) .nil)))) (.cons (.tup (.cons (.kI 0) (.cons (.kI 0) (.cons (.kI 2) .nil)))) .nil)))) (.cons (.tup (.cons (.kS "q") (.cons (.tup (.cons (.kI 1) (.cons (.kI 0) (.cons (.kI 1) .nil)))) (.cons (.tup (.cons (.kI 0) (.cons (.kI 2) (.cons (.kI 0) .nil)))) .nil)))) .nil))) .nil))) .nil)))) .nil)))
def f76 : FdX := ⟨("law", none), "law", "law", topS 98, ⟨1, 3, none, b76⟩, ["_law_script", "_law_two", "_law_three"], ["_law_script"], false⟩
def cfg : Cfg where
  bn := ["abs", "all", "any", "bool", "dict", "enumerate", "int", "isinstance", "len", "list", "max", "min", "range", "repr", "set", "sorted", "str", "sum", "tuple", "zip"]
  cls := [("Kinds", ["words", "loads"]), ("Book", ["kinds_of", "lines"])]
  fd := [f0, f1, f2, f3, f4, f5, f6, f7, f8, f9, f10, f11, f12, f13, f14, f15, f16, f17, f18, f19, f20, f21, f22, f23, f24, f25, f26, f27, f28, f29, f30, f31, f32, f33, f34, f35, f36, f37, f38, f39, f40, f41, f42, f43, f44, f45, f46, f47, f48, f49, f50, f51, f52, f53, f54, f55, f56, f57, f58, f59, f60, f61, f62, f63, f64, f65, f66, f67, f68, f69, f70, f71, f72, f73, f74, f75, f76]
  gn := [("LETTERS", .one (.str "abcdefghijklmnopqrstuvwxyz")), ("MOST_LETTERS", .one (.int 8)), ("MOST_WEIGHT_heaps", .one (.int 3)), ("MOST_BOUND", .one (.int 8)), ("MOST_EXCHANGES", .one (.int 5)), ("MOST_SIDE", .one (.int 6)), ("WAYS", .tup [.str "there", .str "back"]), ("LEAST_KINDS", .one (.int 2)), ("MOST_KINDS", .one (.int 4)), ("MOST_WEIGHT_answers", .one (.int 8))]

theorem cfg_wf : cfg.wf = true := by decide +kernel
theorem cfg_ok : cfg.okB = true := by decide +kernel
theorem law_no : cfg.fnL.lookup ("law" : PySem.Str) = some 76 := by decide +kernel
end Lw
set_option maxHeartbeats 0
namespace Lw
open PySem PySem.Spec PyProof.Rows L2 Mn
def loose0 : List PySem.Str := ["__name__", "copied", "PricefanError", "NameMissing", "BadKinds", "BadHeap", "BadPrices", "BadBound", "BadList", "TooMany", "TooHeavy", "BadName", "TwiceTold", "NoExchange", "UnknownName", "LETTERS", "MOST_LETTERS", "MOST_WEIGHT_heaps", "MOST_BOUND", "is_word", "is_number", "are_names", "is_heap", "Kinds", "added", "holds", "taken", "crossing", "heaps_of", "MOST_EXCHANGES"]
def loose1 : List PySem.Str := ["MOST_SIDE", "WAYS", "need_names", "need_sides", "Book", "is_deed", "step", "turned_back", "first_fit", "through", "led", "rest_of", "deeds_of", "LEAST_KINDS", "MOST_KINDS", "is_whole", "are_prices", "are_counts", "need_any_prices", "need_prices", "need_heaps", "total", "goes_ahead", "price", "less", "ordered", "need_bound", "end_of", "is_line", "first_unlike"]
def loose2 : List PySem.Str := ["first_crossing", "judge_list", "moves", "spread", "find_class", "need_light", "class_of", "way", "mates_of", "way_between", "least_of", "reduced_list", "complete", "without_rounds", "MOST_WEIGHT_answers", "need_heap", "like_heaps", "least_like", "price_gap", "cheapest_like", "ranked", "like_by", "rests", "rest_counts", "need_answer", "answer_by", "judge_answer", "_law_pairs_right", "_law_crossing_right"]
def loose : List PySem.Str := loose0 ++ loose1 ++ loose2
abbrev Rw : PySem.W.OpenRow := PySem.W.OpenLaw.row PySem.Challenge.rw_pricefan_k51_known_answers
abbrev hk : PySem.W.Hook := hookC 6 cfg.exR FdX.ad cfg.fd cfg.vals
def ob (s : PySem.W.SharedT) : AlC := lookC cfg.exR FdX.ad cfg.fd (frC 6 (HandSHeadRun.getT s))
theorem ob_eq (s : PySem.W.SharedT) : ob s = hk.obs s.abs := lookC_eq (HandSHeadRun.getT_eq s)
theorem run (w : World) : HandSHeadRun.RunEq Rw (PySem.W.view Rw.prog [98]) hk ob 1000000 loose w := by
  intro os
  kernel_rfl
end Lw
set_option maxHeartbeats 0
namespace Lw
open PySem Mn
def okB : RC → Bool
  | .ok (.d (.bl true)) _ => true
  | _ => false
theorem okB_ok {r : RC} (h : okB r = true) : ∃ G', r = .ok (.d (.bl true)) G' := by
  cases r with
  | ok w G =>
    cases w with
    | d x =>
      cases x with
      | bl b =>
        cases b with
        | true => exact ⟨G, rfl⟩
        | false => cases h
      | _ => cases h
    | _ => cases h
  | _ => cases h
theorem run_ok (ns : List Int) : okB (runF cfg.fns cfg.gl 100 (20 + 1) 76 [.scr ns] []) = true := by kernel_rfl
theorem told : ∀ ns : List Int, ns.length ≤ 63 → (∀ z ∈ ns, PySem.Builtin.Int.intBits z ≤ 1048576) → ∃ G', runF cfg.fns cfg.gl 100 (20 + 1) 76 [.scr ns] [] = .ok (.d (.bl true)) G' := fun ns _ _ => okB_ok (run_ok ns)
end Lw
set_option maxHeartbeats 0
open PySem PySem.W PySem.Calls PyProof.Rows
theorem PySem.Challenge.cw_pricefan_k51_known_answers_holds : PySem.Challenge.rw_pricefan_k51_known_answers.Holds := by
  w_on; o_law
  refine HandSHeadRun.head_any (r := (PySem.W.OpenLaw.row PySem.Challenge.rw_pricefan_k51_known_answers)) (q := view (PySem.W.OpenLaw.row PySem.Challenge.rw_pricefan_k51_known_answers).prog [98]) (H := Lw.hk) (ob := Lw.ob) (M := 1000000) (loose := Lw.loose) (d := HandSHeadRun.topDef (PySem.W.OpenLaw.row PySem.Challenge.rw_pricefan_k51_known_answers).prog 98) (kwd := []) Lw.ob_eq
    (by kernel_rfl) (fun s => by kernel_rfl) Lw.run (by kernel_rfl) (by kernel_rfl) (by kernel_rfl) (by rfl) (by first | assumption | decide +kernel) (by decide +kernel) ⟨rfl, rfl, rfl, rfl, rfl, by decide +kernel⟩ ?hw ?hc
  case hw => w_witness2
  case hc =>
    refine LamX.walk_ofTsE (l := PySem.Challenge.rw_pricefan_k51_known_answers) (n := 63) (k := 2 * 20 + 2) (x := "_law_script") (CX := fun w => L2.CX PySem.Challenge.rw_pricefan_k51_known_answers.prog w) rfl (by decide) (by kernel_rfl) ⟨rfl, by decide, by decide⟩ ?F (fun _ _ _ _ _ z => by
      obtain ⟨_, _, _, _, _, _, _, _, _, _, _, _, e⟩ := z
      exact e)
    intro w mg fa h Y G hmg0
    exact Mn.Cfg.law_end Lw.cfg 100 20 Y G (hmg0 : mg ("law" : PySem.Str) = some (.ref fa)) Lw.cfg_wf Lw.cfg_ok Lw.law_no rfl rfl rfl rfl Lw.told
